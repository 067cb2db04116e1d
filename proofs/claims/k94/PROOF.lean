import PyProof.Rows.All
import Wide.All
import OpenK.AllK
import Wide.FinOn
import HandS.ForMost
import HandS.Zip
import HandS.IsInst
import HandS.TupAny
import HandS.TupMul
import HandS.Conv
import HandS.Walk
import HandS.Style
import HandS.Defaults
import HandS.Lambda
import HandS.Nested
import HandS.HeadHook2
import HandS.Deep
import KE.DataCmp
import KE.SortData
import KE.DataMinMax
import HandS.Strs
import HandS.SetFor
import HandS.HeadHook4
import HandS.HeadWalk
import HandS.Head2
import HandS.WordsExc
import HandS.WordsList
import HandS.WordsDict
import PySem.Challenge.RW_pairsled_k94_whole_alike_papers
section
set_option Elab.async false
set_option linter.all false
set_option autoImplicit false
set_option maxRecDepth 100000
/-! Dn0: denotations over the hand layer: computations with draws, worlds, what the slots hold. -/
namespace Dn
open PySem PySem.Spec PyProof.Rows L2 LamX

/-! ### computations: done, stuck, or a draw below n -/
inductive T (α : Type) where
  | err
  | ret (a : α)
  | draw (n : Nat) (k : Nat → T α)
def T.bind {α β : Type} : T α → (α → T β) → T β
  | .err, _ => .err
  | .ret a, f => f a
  | .draw n k, f => .draw n fun d => (k d).bind f
instance : Monad T where
  pure := T.ret
  bind := T.bind
def Hold {α : Type} : T α → (α → Prop) → Prop
  | .err, _ => False
  | .ret a, p => p a
  | .draw n k, p => 0 < n ∧ ∀ d, d < n → Hold (k d) p
theorem Hold.mono {α : Type} {p q : α → Prop} (h : ∀ a, p a → q a) : ∀ {m : T α}, Hold m p → Hold m q
  | .err, z => z
  | .ret _, z => h _ z
  | .draw _ _, z => ⟨z.1, fun d hd => Hold.mono h (z.2 d hd)⟩
theorem Hold.bind {α β : Type} {f : α → T β} {q : β → Prop} : ∀ {m : T α}, Hold (m.bind f) q → Hold m fun a => Hold (f a) q
  | .err, z => z
  | .ret _, z => z
  | .draw _ _, z => ⟨z.1, fun d hd => Hold.bind (z.2 d hd)⟩
theorem Hold.bind' {α β : Type} {f : α → T β} {q : β → Prop} : ∀ {m : T α}, (Hold m fun a => Hold (f a) q) → Hold (m.bind f) q
  | .err, z => z
  | .ret _, z => z
  | .draw _ _, z => ⟨z.1, fun d hd => Hold.bind' (z.2 d hd)⟩
theorem Hold.and {α : Type} {p q : α → Prop} : ∀ {m : T α}, Hold m p → Hold m q → Hold m fun a => p a ∧ q a
  | .err, z, _ => z
  | .ret _, z, z' => ⟨z, z'⟩
  | .draw _ _, z, z' => ⟨z.1, fun d hd => Hold.and (z.2 d hd) (z'.2 d hd)⟩

/-! ### what a name may hold -/
inductive AV where
  /-- nothing that is known -/
  | no
  /-- data that stays as it is -/
  | sh (d : PyData)
  /-- a list that nobody else holds -/
  | own (ds : List PyData)
  /-- a pot of numbers -/
  | pot
  /-- a function of data -/
  | fn (g : List PyData → T PyData)
abbrev Env := List AV
/-- what nobody changes; where pots stand -/
structure Wd where
  Φ : Hp
  P : Addr → Prop
structure Ext (W W' : Wd) : Prop where
  φ : ∀ a o, W.Φ a = some o → W'.Φ a = some o
  p : ∀ a, W.P a → W'.P a
theorem Ext.refl (W : Wd) : Ext W W := ⟨fun _ _ h => h, fun _ h => h⟩
theorem Ext.trans {W W1 W2 : Wd} (a : Ext W W1) (b : Ext W1 W2) : Ext W W2 := ⟨fun c o h => b.φ c o (a.φ c o h), fun c h => b.p c (a.p c h)⟩
def PotOk (i j : Int) : Prop := 0 ≤ i ∧ i.natAbs < 2 ^ 2000000 ∧ 0 ≤ j ∧ j < 2147483648

/-! ### data in a part of the heap -/
section
variable {K : PySem.W.Frag} {H H' : Hp}
theorem rd_le {a : Addr} {u : HO} (e : ∀ a o, H a = some o → H' a = some o) (h : Rd H a u) : Rd H' a u := by
  rcases h with h | ⟨o, h⟩
  · exact .inl (e _ _ h)
  · exact .inr ⟨o, e _ _ h⟩
theorem sqL_le {a : Addr} {xs : List V} (e : ∀ a o, H a = some o → H' a = some o) (h : SqL K H a xs) : SqL K H' a xs := h.imp (rd_le e) id
theorem sqT_le {a : Addr} {xs : List V} (e : ∀ a o, H a = some o → H' a = some o) (h : SqT K H a xs) : SqT K H' a xs := h.imp (rd_le e) id
mutual
theorem dp_le (e : ∀ a o, H a = some o → H' a = some o) : ∀ (d : PyData) (v : V), Dp K H v d → Dp K H' v d
  | .none, _, h => by cases h; exact .non
  | .bool b, _, h => by cases h; exact .bl b
  | .int i, _, h => by cases h; exact .int i
  | .str x, _, h => by cases h; exact .str x
  | .list ds, _, h => by
    cases h with
    | lst hs ha => exact .lst (sqL_le e hs) (dpAll_le e ds _ ha)
  | .tuple ds, _, h => by
    cases h with
    | tup hs ha => exact .tup (sqT_le e hs) (dpAll_le e ds _ ha)
  | .dict _, _, h => by cases h
theorem dpAll_le (e : ∀ a o, H a = some o → H' a = some o) : ∀ (ds : List PyData) (vs : List V), DpAll K H vs ds → DpAll K H' vs ds
  | [], _, h => by cases h; exact .nil
  | d :: ds, _, h => by
    cases h with
    | cons h1 h2 => exact .cons (dp_le e d _ h1) (dpAll_le e ds _ h2)
end
theorem DpAll.len : ∀ {vs : List V} {ds : List PyData}, DpAll K H vs ds → vs.length = ds.length
  | [], _, h => by cases h; rfl
  | _ :: vs, _, h => by
    cases h with
    | cons h1 h2 => rw [List.length_cons, List.length_cons, DpAll.len h2]
theorem DpAll.get : ∀ {vs : List V} {ds : List PyData} {i : Nat} {d : PyData}, DpAll K H vs ds → ds[i]? = some d → ∃ v, vs[i]? = some v ∧ Dp K H v d
  | _, [], i, d, h, e => by simp at e
  | _, _ :: ds, 0, d, h, e => by
    cases h with
    | cons h1 h2 =>
      simp at e
      subst e
      exact ⟨_, rfl, h1⟩
  | _, _ :: ds, i + 1, d, h, e => by
    cases h with
    | cons h1 h2 => exact DpAll.get (i := i) h2 (by simpa using e)
theorem DpAll.getV : ∀ {vs : List V} {ds : List PyData} {i : Nat} {v : V}, DpAll K H vs ds → vs[i]? = some v → ∃ d, ds[i]? = some d ∧ Dp K H v d
  | [], _, i, d, h, e => by simp at e
  | _ :: vs, _, 0, d, h, e => by
    cases h with
    | cons h1 h2 =>
      simp at e
      subst e
      exact ⟨_, rfl, h1⟩
  | _ :: vs, _, i + 1, d, h, e => by
    cases h with
    | cons h1 h2 => exact DpAll.getV (i := i) h2 (by simpa using e)
theorem DpAll.app : ∀ {vs ws : List V} {ds es : List PyData}, DpAll K H vs ds → DpAll K H ws es → DpAll K H (vs ++ ws) (ds ++ es)
  | [], _, _, _, h, h' => by cases h; exact h'
  | _ :: vs, _, _, _, h, h' => by
    cases h with
    | cons h1 h2 => exact .cons h1 (DpAll.app h2 h')
theorem DpAll.one {v : V} {d : PyData} (h : Dp K H v d) : DpAll K H [v] [d] := .cons h .nil
theorem DpAll.of : ∀ {vs : List V} {ds : List PyData}, vs.length = ds.length → (∀ (i : Nat) (v : V) (d : PyData), vs[i]? = some v → ds[i]? = some d → Dp K H v d) → DpAll K H vs ds
  | [], [], _, _ => .nil
  | [], _ :: _, h, _ => by simp at h
  | _ :: _, [], h, _ => by simp at h
  | v :: vs, d :: ds, h, f => .cons (f 0 v d rfl rfl) (DpAll.of (by simpa using h) fun i w e a b => f (i + 1) w e (by simpa using a) (by simpa using b))
theorem DpAll.take : ∀ {vs : List V} {ds : List PyData} (n : Nat), DpAll K H vs ds → DpAll K H (vs.take n) (ds.take n)
  | _, _, 0, _ => .nil
  | [], _, _ + 1, h => by cases h; exact .nil
  | _ :: _, _, n + 1, h => by
    cases h with
    | cons h1 h2 => exact .cons h1 (DpAll.take n h2)
theorem DpAll.drop : ∀ {vs : List V} {ds : List PyData} (n : Nat), DpAll K H vs ds → DpAll K H (vs.drop n) (ds.drop n)
  | _, _, 0, h => h
  | [], _, _ + 1, h => by cases h; exact .nil
  | _ :: _, _, n + 1, h => by
    cases h with
    | cons h1 h2 => exact DpAll.drop n h2
theorem DpAll.set : ∀ {vs : List V} {ds : List PyData} {v : V} {d : PyData} (n : Nat), DpAll K H vs ds → Dp K H v d → DpAll K H (vs.set n v) (ds.set n d)
  | [], _, _, _, _, h, _ => by cases h; exact .nil
  | _ :: _, _, _, _, 0, h, q => by
    cases h with
    | cons h1 h2 => exact .cons q h2
  | _ :: _, _, _, _, n + 1, h, q => by
    cases h with
    | cons h1 h2 => exact .cons h1 (DpAll.set n h2 q)
theorem DpAll.erase : ∀ {vs : List V} {ds : List PyData} (n : Nat), DpAll K H vs ds → DpAll K H (vs.eraseIdx n) (ds.eraseIdx n)
  | [], _, _, h => by cases h; exact .nil
  | _ :: _, _, 0, h => by
    cases h with
    | cons h1 h2 => exact h2
  | _ :: _, _, n + 1, h => by
    cases h with
    | cons h1 h2 => exact .cons h1 (DpAll.erase n h2)
theorem DpAll.ints : ∀ (ns : List Int), DpAll K H (ns.map V.int) (ns.map PyData.int)
  | [] => .nil
  | n :: ns => .cons (.int n) (DpAll.ints ns)
end

/-! ### the world is held -/
section
variable (K : PySem.W.Frag) (Tb : List (Addr × Str)) (B : Wd → V → (List PyData → T PyData) → Prop)
structure WOk (W : Wd) (F H : Hp) : Prop where
  fz : ∀ a o, W.Φ a = some o → H a = some o
  fr : ∀ a o, F a = some o → H a = some o
  dj : ∀ a o, F a = some o → W.Φ a = none ∧ ¬ W.P a
  pt : ∀ a, W.P a → W.Φ a = none ∧ ∃ i j, H a = some (.lst [.int i, .int j]) ∧ PotOk i j
  tb : Tabs Tb H
  nt : ∀ a o, (W.Φ a = some o ∨ F a = some o) → ∀ ps, o ≠ .tbl ps
  sz : ∀ a xs, (Rd W.Φ a (.lst xs) ∨ Rd W.Φ a (.tup xs)) → xs.length ≤ sizeLine
  fl : ∀ a o, F a = some o → ∃ vs, o = .lst vs
/-- a value holds what it is said to -/
def VOk (W : Wd) (v : V) : AV → Prop
  | .sh d => Dp K W.Φ v d
  | .pot => ∃ a, v = .ref a ∧ W.P a
  | .fn g => ∃ W0, Ext W0 W ∧ B W0 v g
  | _ => False
/-- the slots -/
structure SOk (W : Wd) (F : Hp) (ρ : Env) (σ : L2.St) (H : Hp) : Prop where
  len : ρ.length = σ.length
  sh : ∀ (i : Nat) (av : AV), ρ[i]? = some av → av ≠ .no → (∀ ds, av ≠ .own ds) → ∃ v, σ[i]? = some (some v) ∧ VOk K B W v av
  own : ∀ (i : Nat) (ds : List PyData), ρ[i]? = some (.own ds) → ∃ a vs, σ[i]? = some (some (.ref a)) ∧ H a = some (.lst vs) ∧ vs.length ≤ sizeLine ∧ W.Φ a = none ∧ F a = none ∧ ¬ W.P a ∧ DpAll K W.Φ vs ds
  ne : ∀ (i j : Nat) (ds es : List PyData) (a : Addr), i ≠ j → ρ[i]? = some (.own ds) → ρ[j]? = some (.own es) → σ[i]? = some (some (.ref a)) → σ[j]? ≠ some (some (.ref a))
structure Sim (W : Wd) (F : Hp) (ρ : Env) (σ : L2.St) (H : Hp) : Prop where
  w : WOk Tb W F H
  s : SOk K B W F ρ σ H
/-- data that can be read -/
def Rb (W : Wd) (H : Hp) (v : V) : PyData → Prop
  | .list ds => ∃ a vs, v = .ref a ∧ SqL K H a vs ∧ vs.length ≤ sizeLine ∧ DpAll K W.Φ vs ds
  | d => Dp K W.Φ v d
end
section
variable {K : PySem.W.Frag} {Tb : List (Addr × Str)} {B : Wd → V → (List PyData → T PyData) → Prop} {W W' : Wd} {F F' H H' : Hp} {ρ ρ' : Env} {σ σ' : L2.St}
theorem VOk.ext {v : V} {av : AV} (e : Ext W W') (h : VOk K B W v av) : VOk K B W' v av := by
  cases av with
  | sh d => exact dp_le e.φ _ _ h
  | pot => obtain ⟨a, h1, h2⟩ := h; exact ⟨a, h1, e.p _ h2⟩
  | fn g => obtain ⟨W0, e0, h⟩ := h; exact ⟨W0, e0.trans e, h⟩
  | no => exact h
  | own ds => exact h
theorem sqL_sz (w : WOk Tb W F H) {a : Addr} {xs : List V} (h : SqL K W.Φ a xs) : xs.length ≤ sizeLine := by
  rcases h with h | ⟨o, its, n, _, _, _, _, hz, r⟩
  · exact w.sz a xs (.inl h)
  · have e := r.length
    simp only [Array.length_toList] at e
    omega
theorem sqT_sz (w : WOk Tb W F H) {a : Addr} {xs : List V} (h : SqT K W.Φ a xs) : xs.length ≤ sizeLine := by
  rcases h with h | ⟨o, its, n, _, _, _, hz, r⟩
  · exact w.sz a xs (.inr h)
  · have e := r.length
    simp only [Array.length_toList] at e
    omega
theorem Rb.of {v : V} {d : PyData} (w : WOk Tb W F H) (h : Dp K W.Φ v d) : Rb K W H v d := by
  cases d with
  | list ds =>
    cases h with
    | lst hs ha => exact ⟨_, _, rfl, sqL_le w.fz hs, sqL_sz w hs, ha⟩
  | _ => exact h
theorem Rb.dp {v : V} {d : PyData} (w : WOk Tb W F H) (h : Rb K W H v d) : Dp K H v d := by
  cases d with
  | list ds =>
    obtain ⟨a, vs, rfl, h1, _, h2⟩ := h
    exact .lst h1 (dpAll_le w.fz _ _ h2)
  | _ => exact dp_le w.fz _ _ h
/-- less is asked of the frame -/
theorem WOk.frame (w : WOk Tb W F H) (h : ∀ a o, F' a = some o → F a = some o) : WOk Tb W F' H :=
  ⟨w.fz, fun a o e => w.fr a o (h a o e), fun a o e => w.dj a o (h a o e), w.pt, w.tb, fun a o e => w.nt a o (e.imp id (h a o)), w.sz, fun a o e => w.fl a o (h a o e)⟩
theorem upd_le {a : Addr} {o : HO} (hn : F a = none) : ∀ b u, F b = some u → upd F a o b = some u := fun b u e => by rw [upd_ne (ne_of_none e hn)]; exact e
theorem WOk.drop {a : Addr} {o : HO} (hn : F a = none) (w : WOk Tb W (upd F a o) H) : WOk Tb W F H := w.frame (upd_le hn)
theorem SOk.frame (s : SOk K B W F ρ σ H) (h : ∀ a o, F' a = some o → F a = some o) : SOk K B W F' ρ σ H := by
  refine ⟨s.len, s.sh, fun i ds e => ?_, s.ne⟩
  obtain ⟨a, vs, h1, h2, hz, h3, h4, h5⟩ := s.own i ds e
  refine ⟨a, vs, h1, h2, hz, h3, ?_, h5⟩
  cases q : F' a with
  | none => rfl
  | some o =>
    have z := h a o q
    rw [h4] at z
    cases z
theorem Sim.frame (s : Sim K Tb B W F ρ σ H) (h : ∀ a o, F' a = some o → F a = some o) : Sim K Tb B W F' ρ σ H := ⟨s.w.frame h, s.s.frame h⟩
theorem Sim.drop {a : Addr} {o : HO} (hn : F a = none) (s : Sim K Tb B W (upd F a o) ρ σ H) : Sim K Tb B W F ρ σ H := s.frame (upd_le hn)
/-- an owned list that is not in a slot is given to the world -/
theorem WOk.freeze {a : Addr} {vs : List V} (hn : F a = none) (w : WOk Tb W (upd F a (.lst vs)) H) (hz : vs.length ≤ sizeLine) :
    ∃ W', Ext W W' ∧ WOk Tb W' F H ∧ W'.Φ a = some (.lst vs) ∧ (∀ b, b ≠ a → W'.Φ b = W.Φ b) ∧ W'.P = W.P := by
  obtain ⟨d1, d2⟩ := w.dj a _ upd_same
  have hH := w.fr a _ upd_same
  refine ⟨⟨upd W.Φ a (.lst vs), W.P⟩, ⟨upd_le d1, fun _ h => h⟩, ⟨fun b o e => ?_, fun b o e => w.fr b o (upd_le hn b o e), fun b o e => ?_, fun b hb => ?_, w.tb, fun b o e => ?_, fun b xs e => ?_, fun b o e => w.fl b o (upd_le hn b o e)⟩, upd_same, fun b hb => upd_ne hb, rfl⟩
  · dsimp only at e
    by_cases hb : b = a
    · subst hb
      rw [upd_same] at e
      rw [← e]; exact hH
    · rw [upd_ne hb] at e; exact w.fz b o e
  · have hb : b ≠ a := ne_of_none e hn
    obtain ⟨h1, h2⟩ := w.dj b o (upd_le hn b o e)
    exact ⟨by show upd W.Φ a _ b = none; rw [upd_ne hb]; exact h1, h2⟩
  · have hb' : b ≠ a := fun z => d2 (z ▸ hb)
    obtain ⟨h1, h2⟩ := w.pt b hb
    exact ⟨by show upd W.Φ a _ b = none; rw [upd_ne hb']; exact h1, h2⟩
  · dsimp only at e
    by_cases hb : b = a
    · subst hb
      rcases e with e | e
      · rw [upd_same] at e; cases e; intro ps z; cases z
      · exact w.nt b o (.inr (upd_le hn b o e))
    · refine w.nt b o (e.imp (fun e => ?_) (upd_le hn b o))
      rw [upd_ne hb] at e; exact e
  · dsimp only at e
    by_cases hb : b = a
    · subst hb
      rcases e with (e | ⟨q, e⟩) | (e | ⟨q, e⟩) <;> rw [upd_same] at e <;> cases e
      exact hz
    · refine w.sz b xs (e.imp (fun e => ?_) (fun e => ?_)) <;> (rcases e with e | ⟨q, e⟩ <;> rw [upd_ne hb] at e)
      · exact .inl e
      · exact .inr ⟨q, e⟩
      · exact .inl e
      · exact .inr ⟨q, e⟩
theorem SOk.world (s : SOk K B W F ρ σ H) (e : Ext W W') (hf : ∀ b, (∃ (i : Nat) (ds : List PyData), ρ[i]? = some (.own ds) ∧ σ[i]? = some (some (.ref b))) → W.Φ b = none → W'.Φ b = none) (hp : W'.P = W.P) : SOk K B W' F ρ σ H :=
  ⟨s.len, fun i av h1 h2 h3 => by
    obtain ⟨v, q1, q2⟩ := s.sh i av h1 h2 h3
    exact ⟨v, q1, q2.ext e⟩, fun i ds h => by
    obtain ⟨a, vs, h1, h2, hz, h3, h4, h5, h6⟩ := s.own i ds h
    exact ⟨a, vs, h1, h2, hz, hf a ⟨i, ds, h, h1⟩ h3, h4, by rw [hp]; exact h5, dpAll_le e.φ _ _ h6⟩, s.ne⟩
theorem Sim.freeze {a : Addr} {vs : List V} {ds : List PyData} (hn : F a = none) (s : Sim K Tb B W (upd F a (.lst vs)) ρ σ H) (hz : vs.length ≤ sizeLine) (hd : DpAll K W.Φ vs ds) :
    ∃ W', Ext W W' ∧ Sim K Tb B W' F ρ σ H ∧ Dp K W'.Φ (.ref a) (.list ds) := by
  obtain ⟨W', e, w, h1, h2, h3⟩ := s.w.freeze hn hz
  refine ⟨W', e, ⟨w, ?_⟩, .lst (.inl (.inl h1)) (dpAll_le e.φ _ _ hd)⟩
  refine (s.s.frame (upd_le hn)).world e (fun b ⟨i, es, hi, hs⟩ hb => ?_) h3
  obtain ⟨a', vs', q1, q2, _, q3, q4, _⟩ := s.s.own i es hi
  rw [hs] at q1; cases q1
  have hb' : b ≠ a := fun z => by subst z; rw [upd_same] at q4; cases q4
  rw [h2 b hb']; exact hb
/-- something is laid that the world knows from now on -/
theorem Sim.made {p : Addr} {o : HO} (hp : H p = none) (s : Sim K Tb B W F ρ σ H) (ho : ∀ ps, o ≠ .tbl ps) (hz : ∀ xs, (o = .lst xs ∨ o = .tup xs ∨ (∃ q, o = .frz q (.lst xs)) ∨ (∃ q, o = .frz q (.tup xs))) → xs.length ≤ sizeLine) :
    ∃ W', Ext W W' ∧ Sim K Tb B W' F ρ σ (upd H p o) ∧ W'.Φ p = some o := by
  have hW : W.Φ p = none := by
    cases q : W.Φ p with
    | none => rfl
    | some u => rw [s.w.fz p u q] at hp; cases hp
  have hF : F p = none := by
    cases q : F p with
    | none => rfl
    | some u => rw [s.w.fr p u q] at hp; cases hp
  have hP : ¬ W.P p := fun z => by
    obtain ⟨_, i, j, e, _⟩ := s.w.pt p z
    rw [hp] at e; cases e
  have ext : ∀ b u, H b = some u → upd H p o b = some u := upd_le hp
  have e : Ext W ⟨upd W.Φ p o, W.P⟩ := ⟨upd_le hW, fun _ h => h⟩
  refine ⟨⟨upd W.Φ p o, W.P⟩, e, ⟨⟨fun b u e => ?_, fun b u e => ext b u (s.w.fr b u e), fun b u e => ?_, fun b hb => ?_, fun q hq => (s.w.tb q hq).ext ext, fun b u e => ?_, fun b xs e => ?_, s.w.fl⟩, ⟨s.s.len, fun i av h1 h2 h3 => ?_, fun i ds h => ?_, s.s.ne⟩⟩, upd_same⟩
  · dsimp only at e
    by_cases hb : b = p
    · subst hb
      rw [upd_same] at e; rw [upd_same]; exact e
    · rw [upd_ne hb] at e
      exact ext b u (s.w.fz b u e)
  · have hb : b ≠ p := ne_of_none e hF
    obtain ⟨h1, h2⟩ := s.w.dj b u e
    exact ⟨by show upd W.Φ p o b = none; rw [upd_ne hb]; exact h1, h2⟩
  · have hb' : b ≠ p := fun z => hP (z ▸ hb)
    obtain ⟨h1, i, j, h2, h3⟩ := s.w.pt b hb
    exact ⟨by show upd W.Φ p o b = none; rw [upd_ne hb']; exact h1, i, j, ext b _ h2, h3⟩
  · dsimp only at e
    by_cases hb : b = p
    · subst hb
      rcases e with e | e
      · rw [upd_same] at e; cases e; exact ho
      · rw [hF] at e; cases e
    · refine s.w.nt b u (e.imp (fun e => ?_) id)
      rw [upd_ne hb] at e; exact e
  · dsimp only at e
    by_cases hb : b = p
    · subst hb
      rcases e with (e | ⟨q, e⟩) | (e | ⟨q, e⟩) <;> rw [upd_same] at e <;> cases e
      · exact hz xs (.inl rfl)
      · exact hz xs (.inr (.inr (.inl ⟨q, rfl⟩)))
      · exact hz xs (.inr (.inl rfl))
      · exact hz xs (.inr (.inr (.inr ⟨q, rfl⟩)))
    · refine s.w.sz b xs (e.imp (fun e => ?_) (fun e => ?_)) <;> (rcases e with e | ⟨q, e⟩ <;> rw [upd_ne hb] at e)
      · exact .inl e
      · exact .inr ⟨q, e⟩
      · exact .inl e
      · exact .inr ⟨q, e⟩
  · obtain ⟨v, q1, q2⟩ := s.s.sh i av h1 h2 h3
    exact ⟨v, q1, q2.ext e⟩
  · obtain ⟨a, vs, h1, h2, h2z, h3, h4, h5, h6⟩ := s.s.own i ds h
    have ha : a ≠ p := ne_of_none h2 hp
    exact ⟨a, vs, h1, ext a _ h2, h2z, by show upd W.Φ p o a = none; rw [upd_ne ha]; exact h3, h4, h5, dpAll_le e.φ _ _ h6⟩
/-- a new list that nobody else holds -/
theorem Sim.new {p : Addr} {vs : List V} (hp : H p = none) (s : Sim K Tb B W F ρ σ H) : F p = none ∧ Sim K Tb B W (upd F p (.lst vs)) ρ σ (upd H p (.lst vs)) := by
  have hW : W.Φ p = none := by
    cases q : W.Φ p with
    | none => rfl
    | some u => rw [s.w.fz p u q] at hp; cases hp
  have hF : F p = none := by
    cases q : F p with
    | none => rfl
    | some u => rw [s.w.fr p u q] at hp; cases hp
  have hP : ¬ W.P p := fun z => by
    obtain ⟨_, i, j, e, _⟩ := s.w.pt p z
    rw [hp] at e; cases e
  have ext : ∀ b u, H b = some u → upd H p (.lst vs) b = some u := upd_le hp
  refine ⟨hF, ⟨⟨fun b u e => ext b u (s.w.fz b u e), fun b u e => ?_, fun b u e => ?_, fun b hb => ?_, fun q hq => (s.w.tb q hq).ext ext, fun b u e => ?_, s.w.sz, fun b u e => by
    by_cases hb : b = p
    · rw [hb, upd_same] at e; cases e; exact ⟨_, rfl⟩
    · rw [upd_ne hb] at e; exact s.w.fl b u e⟩, ⟨s.s.len, s.s.sh, fun i ds h => ?_, s.s.ne⟩⟩⟩
  · by_cases hb : b = p
    · subst hb
      rw [upd_same] at e; rw [upd_same]; exact e
    · rw [upd_ne hb] at e
      exact ext b u (s.w.fr b u e)
  · by_cases hb : b = p
    · subst hb
      exact ⟨hW, hP⟩
    · rw [upd_ne hb] at e
      exact s.w.dj b u e
  · obtain ⟨h1, i, j, h2, h3⟩ := s.w.pt b hb
    exact ⟨h1, i, j, ext b _ h2, h3⟩
  · by_cases hb : b = p
    · subst hb
      rcases e with e | e
      · rw [hW] at e; cases e
      · rw [upd_same] at e; cases e; intro ps z; cases z
    · refine s.w.nt b u (e.imp id (fun e => ?_))
      rw [upd_ne hb] at e; exact e
  · obtain ⟨a, xs, h1, h2, h2z, h3, h4, h5, h6⟩ := s.s.own i ds h
    have ha : a ≠ p := ne_of_none h2 hp
    exact ⟨a, xs, h1, ext a _ h2, h2z, h3, by rw [upd_ne ha]; exact h4, h5, h6⟩
/-- something is laid that nobody asks for -/
theorem Sim.laid {p : Addr} {o : HO} (hp : H p = none) (s : Sim K Tb B W F ρ σ H) : Sim K Tb B W F ρ σ (upd H p o) := by
  have ext : ∀ b u, H b = some u → upd H p o b = some u := upd_le hp
  refine ⟨⟨fun b u e => ext b u (s.w.fz b u e), fun b u e => ext b u (s.w.fr b u e), s.w.dj, fun b hb => ?_, fun q hq => (s.w.tb q hq).ext ext, s.w.nt, s.w.sz, s.w.fl⟩, ⟨s.s.len, s.s.sh, fun i ds h => ?_, s.s.ne⟩⟩
  · obtain ⟨h1, i, j, h2, h3⟩ := s.w.pt b hb
    exact ⟨h1, i, j, ext b _ h2, h3⟩
  · obtain ⟨a, xs, h1, h2, h2z, h3⟩ := s.s.own i ds h
    exact ⟨a, xs, h1, ext a _ h2, h2z, h3⟩
/-- the heap grows otherwise: all is kept but tables -/
theorem Sim.grown (s : Sim K Tb B W F ρ σ H) (e : ExtN H H') (t : Tabs Tb H') : Sim K Tb B W F ρ σ H' :=
  ⟨⟨fun b u h => e b u (s.w.fz b u h) (s.w.nt b u (.inl h)), fun b u h => e b u (s.w.fr b u h) (s.w.nt b u (.inr h)), s.w.dj, fun b hb => by
    obtain ⟨h1, i, j, h2, h3⟩ := s.w.pt b hb
    exact ⟨h1, i, j, e b _ h2 (fun ps z => by cases z), h3⟩, t, s.w.nt, s.w.sz, s.w.fl⟩, ⟨s.s.len, s.s.sh, fun i ds h => by
    obtain ⟨a, xs, h1, h2, h2z, h3⟩ := s.s.own i ds h
    exact ⟨a, xs, h1, e a _ h2 (fun ps z => by cases z), h2z, h3⟩, s.s.ne⟩⟩

/-! ### slots -/
theorem lt_of_get {α : Type} {l : List α} {i : Nat} {x : α} (h : l[i]? = some x) : i < l.length := (List.getElem?_eq_some_iff.mp h).1
theorem set_get {α : Type} {l : List α} {i j : Nat} {x y : α} (h : (l.set i x)[j]? = some y) : (i = j ∧ x = y) ∨ (i ≠ j ∧ l[j]? = some y) := by
  by_cases e : i = j
  · subst e
    by_cases hl : i < l.length
    · rw [List.getElem?_set_self hl] at h
      exact .inl ⟨rfl, Option.some.inj h⟩
    · rw [List.getElem?_eq_none (by simpa using hl)] at h; cases h
  · rw [List.getElem?_set_ne e] at h
    exact .inr ⟨e, h⟩
theorem Sim.get {i : Nat} {av : AV} (s : Sim K Tb B W F ρ σ H) (h : ρ[i]? = some av) (h1 : av ≠ .no) (h2 : ∀ ds, av ≠ .own ds) : ∃ v, σ[i]? = some (some v) ∧ VOk K B W v av := s.s.sh i av h h1 h2
/-- a slot is set to what is no owned list -/
theorem Sim.set {i : Nat} {v : V} {av : AV} (s : Sim K Tb B W F ρ σ H) (h : VOk K B W v av) : Sim K Tb B W F (ρ.set i av) (σ.set i (some v)) H := by
  have nown : ∀ ds, av ≠ .own ds := fun ds z => by subst z; exact h
  refine ⟨s.w, ⟨by simpa using s.s.len, fun j aw e h1 h2 => ?_, fun j ds e => ?_, fun j k ds es a hjk e1 e2 e3 => ?_⟩⟩
  · rcases set_get e with ⟨rfl, rfl⟩ | ⟨hne, e⟩
    · have hl : i < σ.length := by rw [← s.s.len]; simpa using lt_of_get e
      exact ⟨v, List.getElem?_set_self hl, h⟩
    · obtain ⟨w, q1, q2⟩ := s.s.sh j aw e h1 h2
      exact ⟨w, by rw [List.getElem?_set_ne hne]; exact q1, q2⟩
  · rcases set_get e with ⟨_, z⟩ | ⟨hne, e⟩
    · exact absurd z (nown ds)
    · obtain ⟨a, vs, q1, q2⟩ := s.s.own j ds e
      exact ⟨a, vs, by rw [List.getElem?_set_ne hne]; exact q1, q2⟩
  · rcases set_get e1 with ⟨_, z⟩ | ⟨hne, e1⟩
    · exact absurd z (nown ds)
    · rcases set_get e2 with ⟨_, z⟩ | ⟨hne2, e2⟩
      · exact absurd z (nown es)
      · rw [List.getElem?_set_ne hne] at e3
        rw [List.getElem?_set_ne hne2]
        exact s.s.ne j k ds es a hjk e1 e2 e3
/-- a slot takes an owned list -/
theorem Sim.setOwn {i : Nat} {a : Addr} {vs : List V} {ds : List PyData} (hn : F a = none) (s : Sim K Tb B W (upd F a (.lst vs)) ρ σ H) (hz : vs.length ≤ sizeLine) (hd : DpAll K W.Φ vs ds) : Sim K Tb B W F (ρ.set i (.own ds)) (σ.set i (some (.ref a))) H := by
  have q := s.s.frame (upd_le hn)
  obtain ⟨d1, d2⟩ := s.w.dj a _ upd_same
  have hne : ∀ (j : Nat) (es : List PyData) (b : Addr), ρ[j]? = some (.own es) → σ[j]? = some (some (.ref b)) → b ≠ a := fun j es b e1 e2 z => by
    subst z
    obtain ⟨a', _, q1, _, _, _, q4, _⟩ := s.s.own j es e1
    rw [e2] at q1; cases q1
    rw [upd_same] at q4; cases q4
  refine ⟨s.w.drop hn, ⟨by simpa using s.s.len, fun j aw e h1 h2 => ?_, fun j es e => ?_, fun j k es es' b hjk e1 e2 e3 => ?_⟩⟩
  · rcases set_get e with ⟨_, z⟩ | ⟨hji, e⟩
    · exact absurd z.symm (h2 ds)
    · obtain ⟨w, q1, q2⟩ := s.s.sh j aw e h1 h2
      exact ⟨w, by rw [List.getElem?_set_ne hji]; exact q1, q2⟩
  · rcases set_get e with ⟨rfl, z⟩ | ⟨hji, e⟩
    · cases z
      have hl : i < σ.length := by rw [← s.s.len]; simpa using lt_of_get e
      exact ⟨a, vs, List.getElem?_set_self hl, s.w.fr a _ upd_same, hz, d1, hn, d2, hd⟩
    · obtain ⟨b, ws, q1, q2⟩ := q.own j es e
      exact ⟨b, ws, by rw [List.getElem?_set_ne hji]; exact q1, q2⟩
  · rcases set_get e1 with ⟨rfl, z⟩ | ⟨hji, e1⟩
    · rw [List.getElem?_set_self (by rw [← s.s.len]; simpa using lt_of_get e1)] at e3
      cases e3
      rcases set_get e2 with ⟨z2, _⟩ | ⟨hki, e2⟩
      · exact absurd z2 hjk
      · rw [List.getElem?_set_ne hki]
        exact fun z3 => hne k es' _ e2 z3 rfl
    · rw [List.getElem?_set_ne hji] at e3
      rcases set_get e2 with ⟨rfl, _⟩ | ⟨hki, e2⟩
      · rw [List.getElem?_set_self (by rw [← s.s.len]; simpa using lt_of_get e2)]
        intro z
        cases z
        exact hne j es _ e1 e3 rfl
      · rw [List.getElem?_set_ne hki]
        exact s.s.ne j k es es' b hjk e1 e2 e3
/-- an owned list in a slot is changed -/
theorem Sim.mut {i : Nat} {ds ds' : List PyData} {a : Addr} {vs' : List V} (s : Sim K Tb B W F ρ σ H) (h : ρ[i]? = some (.own ds)) (ha : σ[i]? = some (some (.ref a))) (hz : vs'.length ≤ sizeLine) (hd : DpAll K W.Φ vs' ds') :
    Sim K Tb B W F (ρ.set i (.own ds')) σ (upd H a (.lst vs')) := by
  obtain ⟨a', vs, q1, q2, _, q3, q4, q5, q6⟩ := s.s.own i ds h
  rw [ha] at q1; cases q1
  have nW : ∀ b o, W.Φ b = some o → b ≠ a := fun b o e => ne_of_none e q3
  have nF : ∀ b o, F b = some o → b ≠ a := fun b o e => ne_of_none e q4
  have nP : ∀ b, W.P b → b ≠ a := fun b e z => q5 (z ▸ e)
  refine ⟨⟨fun b o e => by rw [upd_ne (nW b o e)]; exact s.w.fz b o e, fun b o e => by rw [upd_ne (nF b o e)]; exact s.w.fr b o e, s.w.dj, fun b hb => ?_, fun p hp => ?_, s.w.nt, s.w.sz, s.w.fl⟩, ⟨by simpa using s.s.len, fun j aw e h1 h2 => ?_, fun j es e => ?_, fun j k es es' b hjk e1 e2 e3 => ?_⟩⟩
  · obtain ⟨h1, x, y, h2, h3⟩ := s.w.pt b hb
    exact ⟨h1, x, y, by rw [upd_ne (nP b hb)]; exact h2, h3⟩
  · obtain ⟨ps, h1, h2, h3⟩ := s.w.tb p hp
    refine ⟨ps, by rw [upd_ne (ne_of h1 q2 (by intro z; cases z))]; exact h1, h2, fun pos cv hc => ?_⟩
    obtain ⟨c, e1, e2⟩ := h3 pos cv hc
    exact ⟨c, e1, by rw [upd_ne (ne_of e2 q2 (by intro z; unfold CodeO at z; cases z))]; exact e2⟩
  · rcases set_get e with ⟨_, z⟩ | ⟨hji, e⟩
    · exact absurd z.symm (h2 ds')
    · exact s.s.sh j aw e h1 h2
  · rcases set_get e with ⟨rfl, z⟩ | ⟨hji, e⟩
    · cases z
      exact ⟨a, vs', ha, upd_same, hz, q3, q4, q5, hd⟩
    · obtain ⟨b, ws, r1, r2, r3⟩ := s.s.own j es e
      have hb : b ≠ a := fun z => by
        subst z
        exact s.s.ne i j ds es b hji h e ha r1
      exact ⟨b, ws, r1, by rw [upd_ne hb]; exact r2, r3⟩
  · have f : ∀ {j : Nat} {es : List PyData}, (ρ.set i (AV.own ds'))[j]? = some (AV.own es) → ∃ es0 : List PyData, ρ[j]? = some (AV.own es0) := fun {j es} e => by
      rcases set_get e with ⟨rfl, _⟩ | ⟨_, e⟩
      · exact ⟨_, h⟩
      · exact ⟨_, e⟩
    obtain ⟨x, e1⟩ := f e1
    obtain ⟨y, e2⟩ := f e2
    exact s.s.ne j k x y b hjk e1 e2 e3
/-- an owned list in a slot is given to the world -/
theorem Sim.share {i : Nat} {ds : List PyData} (s : Sim K Tb B W F ρ σ H) (h : ρ[i]? = some (.own ds)) :
    ∃ W' v, Ext W W' ∧ Sim K Tb B W' F (ρ.set i (.sh (.list ds))) σ H ∧ σ[i]? = some (some v) ∧ Dp K W'.Φ v (.list ds) := by
  obtain ⟨a, vs, q1, q2, qz, q3, q4, q5, q6⟩ := s.s.own i ds h
  -- first out of the slot into the frame
  have s1 : Sim K Tb B W (upd F a (.lst vs)) (ρ.set i .no) σ H := by
    refine ⟨⟨s.w.fz, fun b o e => ?_, fun b o e => ?_, s.w.pt, s.w.tb, fun b o e => ?_, s.w.sz, fun b u e => by
    by_cases hb : b = a
    · rw [hb, upd_same] at e; cases e; exact ⟨_, rfl⟩
    · rw [upd_ne hb] at e; exact s.w.fl b u e⟩, ⟨by simpa using s.s.len, fun j aw e h1 h2 => ?_, fun j es e => ?_, fun j k es es' b hjk e1 e2 e3 => ?_⟩⟩
    · by_cases hb : b = a
      · subst hb; rw [upd_same] at e; rw [← e]; exact q2
      · rw [upd_ne hb] at e; exact s.w.fr b o e
    · by_cases hb : b = a
      · subst hb; exact ⟨q3, q5⟩
      · rw [upd_ne hb] at e; exact s.w.dj b o e
    · by_cases hb : b = a
      · subst hb
        rcases e with e | e
        · rw [q3] at e; cases e
        · rw [upd_same] at e; cases e; intro ps z; cases z
      · refine s.w.nt b o (e.imp id fun e => ?_)
        rw [upd_ne hb] at e; exact e
    · rcases set_get e with ⟨_, z⟩ | ⟨_, e⟩
      · exact absurd z.symm h1
      · exact s.s.sh j aw e h1 h2
    · rcases set_get e with ⟨_, z⟩ | ⟨hji, e⟩
      · cases z
      · obtain ⟨b, ws, r1, r2, rz, r3, r4, r5⟩ := s.s.own j es e
        have hb : b ≠ a := fun z => by
          subst z
          exact s.s.ne i j ds es b hji h e q1 r1
        exact ⟨b, ws, r1, r2, rz, r3, by rw [upd_ne hb]; exact r4, r5⟩
    · rcases set_get e1 with ⟨_, z⟩ | ⟨_, e1⟩
      · cases z
      · rcases set_get e2 with ⟨_, z⟩ | ⟨_, e2⟩
        · cases z
        · exact s.s.ne j k es es' b hjk e1 e2 e3
  obtain ⟨W', e, s2, hd⟩ := s1.freeze q4 qz q6
  refine ⟨W', .ref a, e, ?_, q1, hd⟩
  have s3 := s2.set (i := i) (v := .ref a) (av := .sh (.list ds)) hd
  rw [List.set_set] at s3
  have : σ.set i (some (.ref a)) = σ := by
    apply List.ext_getElem?
    intro j
    by_cases hj : i = j
    · subst hj; rw [List.getElem?_set_self (lt_of_get q1), q1]
    · rw [List.getElem?_set_ne hj]
  rwa [this] at s3
/-- slots forgotten -/
theorem Sim.forget (i : Nat) (s : Sim K Tb B W F ρ σ H) : Sim K Tb B W F (ρ.set i .no) σ H := by
  refine ⟨s.w, ⟨by simpa using s.s.len, fun j aw e h1 h2 => ?_, fun j es e => ?_, fun j k es es' b hjk e1 e2 e3 => ?_⟩⟩
  · rcases set_get e with ⟨_, z⟩ | ⟨_, e⟩
    · exact absurd z.symm h1
    · exact s.s.sh j aw e h1 h2
  · rcases set_get e with ⟨_, z⟩ | ⟨_, e⟩
    · cases z
    · exact s.s.own j es e
  · rcases set_get e1 with ⟨_, z⟩ | ⟨_, e1⟩
    · cases z
    · rcases set_get e2 with ⟨_, z⟩ | ⟨_, e2⟩
      · cases z
      · exact s.s.ne j k es es' b hjk e1 e2 e3
end
end Dn
end
section
set_option Elab.async false
set_option linter.all false
set_option autoImplicit false
set_option maxRecDepth 100000
/-! Dn1: readings by denotations, and a rule for each construct. -/
namespace Dn
open PySem PySem.Spec PyProof.Rows L2 LamX

/-! ### out of the slots into the frame, for a call -/
section
variable {K : PySem.W.Frag} {Tb : List (Addr × Str)} {B : Wd → V → (List PyData → T PyData) → Prop} {W W' : Wd} {F F' H H' : Hp} {ρ ρ' : Env} {σ σ' : L2.St}
open Classical in
/-- the frame with what the slots own -/
noncomputable def pack (ρ : Env) (σ : L2.St) (F H : Hp) : Hp := fun a => if ∃ (i : Nat) (ds : List PyData), ρ[i]? = some (AV.own ds) ∧ σ[i]? = some (some (V.ref a)) then H a else F a
theorem pack_own {i : Nat} {ds : List PyData} {a : Addr} (h : ρ[i]? = some (.own ds)) (h2 : σ[i]? = some (some (.ref a))) : pack ρ σ F H a = H a := if_pos ⟨i, ds, h, h2⟩
theorem pack_frame (s : Sim K Tb B W F ρ σ H) {a : Addr} {o : HO} (h : F a = some o) : pack ρ σ F H a = some o := by
  unfold pack
  rw [if_neg, h]
  rintro ⟨i, ds, h1, h2⟩
  obtain ⟨b, vs, q1, _, _, _, q4, _⟩ := s.s.own i ds h1
  rw [h2] at q1; cases q1
  rw [h] at q4; cases q4
theorem pack_cases {a : Addr} {o : HO} (h : pack ρ σ F H a = some o) : (F a = some o) ∨ ∃ (i : Nat) (ds : List PyData), ρ[i]? = some (AV.own ds) ∧ σ[i]? = some (some (V.ref a)) ∧ H a = some o := by
  unfold pack at h
  split at h
  · rename_i q
    obtain ⟨i, ds, h1, h2⟩ := q
    exact .inr ⟨i, ds, h1, h2, h⟩
  · exact .inl h
theorem Sim.packed (s : Sim K Tb B W F ρ σ H) : WOk Tb W (pack ρ σ F H) H := by
  refine ⟨s.w.fz, fun a o e => ?_, fun a o e => ?_, s.w.pt, s.w.tb, fun a o e => ?_, s.w.sz, fun a o e => by
    rcases pack_cases e with e | ⟨i, ds, h1, h2, e⟩
    · exact s.w.fl a o e
    · obtain ⟨b, vs, q1, q2, _⟩ := s.s.own i ds h1
      rw [h2] at q1; cases q1
      rw [e] at q2; cases q2
      exact ⟨vs, rfl⟩⟩
  · rcases pack_cases e with e | ⟨_, _, _, _, e⟩
    · exact s.w.fr a o e
    · exact e
  · rcases pack_cases e with e | ⟨i, ds, h1, h2, e⟩
    · exact s.w.dj a o e
    · obtain ⟨b, vs, q1, _, _, q3, _, q5, _⟩ := s.s.own i ds h1
      rw [h2] at q1; cases q1
      exact ⟨q3, q5⟩
  · rcases e with e | e
    · exact s.w.nt a o (.inl e)
    · rcases pack_cases e with e | ⟨i, ds, h1, h2, e⟩
      · exact s.w.nt a o (.inr e)
      · obtain ⟨b, vs, q1, q2, _⟩ := s.s.own i ds h1
        rw [h2] at q1; cases q1
        rw [e] at q2; cases q2
        intro ps z; cases z
/-- behind the call -/
theorem Sim.unpack {G : Hp} (s : Sim K Tb B W F ρ σ H) (e : Ext W W') (hG : ∀ a o, pack ρ σ F H a = some o → G a = some o) (hF : ∀ a o, F' a = some o → G a = some o) (hF2 : ∀ a, pack ρ σ F H a = none → F' a = G a) (hF3 : ∀ a o, F a = some o → F' a = some o)
    (hF4 : ∀ (i : Nat) (ds : List PyData) (a : Addr), ρ[i]? = some (.own ds) → σ[i]? = some (some (.ref a)) → F' a = none) (w : WOk Tb W' G H') : Sim K Tb B W' F' ρ σ H' := by
  refine ⟨w.frame hF, ⟨s.s.len, fun i av h1 h2 h3 => ?_, fun i ds h => ?_, s.s.ne⟩⟩
  · obtain ⟨v, q1, q2⟩ := s.s.sh i av h1 h2 h3
    exact ⟨v, q1, q2.ext e⟩
  · obtain ⟨a, vs, q1, q2, qz, q3, q4, q5, q6⟩ := s.s.own i ds h
    have g : G a = some (.lst vs) := hG a _ (by rw [pack_own h q1]; exact q2)
    obtain ⟨d1, d2⟩ := w.dj a _ g
    exact ⟨a, vs, q1, w.fr a _ g, qz, d1, hF4 i ds a h q1, d2, dpAll_le e.φ _ _ q6⟩
theorem Sim.back (s : Sim K Tb B W F ρ σ H) (e : Ext W W') (w : WOk Tb W' (pack ρ σ F H) H') : Sim K Tb B W' F ρ σ H' := by
  refine s.unpack e (fun _ _ h => h) (fun a o h => pack_frame s h) (fun a h => ?_) (fun _ _ h => h) (fun i ds a h1 h2 => ?_) w
  · cases q : F a with
    | none => rw [h]
    | some o => rw [pack_frame s q] at h; cases h
  · obtain ⟨b, vs, q1, _, _, _, q4, _⟩ := s.s.own i ds h1
    rw [h2] at q1; cases q1
    exact q4
theorem Sim.backOwn {a : Addr} {o : HO} (s : Sim K Tb B W F ρ σ H) (e : Ext W W') (hn : pack ρ σ F H a = none) (w : WOk Tb W' (upd (pack ρ σ F H) a o) H') : F a = none ∧ Sim K Tb B W' (upd F a o) ρ σ H' := by
  have hFa : F a = none := by
    cases q : F a with
    | none => rfl
    | some u => rw [pack_frame s q] at hn; cases hn
  refine ⟨hFa, s.unpack e (upd_le hn) (fun b u h => ?_) (fun b h => ?_) (upd_le hFa) (fun i ds b h1 h2 => ?_) w⟩
  · by_cases hb : b = a
    · subst hb; rw [upd_same] at h ⊢; exact h
    · rw [upd_ne hb] at h ⊢; exact pack_frame s h
  · by_cases hb : b = a
    · subst hb; rw [upd_same, upd_same]
    · rw [upd_ne hb, upd_ne hb, h]
      cases q : F b with
      | none => rfl
      | some u => rw [pack_frame s q] at h; cases h
  · obtain ⟨c, vs, q1, q2, _, _, q4, _⟩ := s.s.own i ds h1
    rw [h2] at q1; cases q1
    have hb : b ≠ a := fun z => by
      subst z
      rw [pack_own h1 h2, q2] at hn; cases hn
    rw [upd_ne hb]; exact q4
end

/-! ### readings -/
section
variable (K : PySem.W.Frag) (Tb : List (Addr × Str)) (B : Wd → V → (List PyData → T PyData) → Prop)
/-- what is wanted of a value behind an expression -/
def RPost (W : Wd) (F : Hp) (ρ : Env) (σ : L2.St) (Q : VK) : AV → Prop
  | .own ds => ∀ W' H' a vs, Ext W W' → F a = none → Sim K Tb B W' (upd F a (.lst vs)) ρ σ H' → vs.length ≤ sizeLine → DpAll K W'.Φ vs ds → Q (.ref a) H'
  | av => ∀ W' H' v, Ext W W' → Sim K Tb B W' F ρ σ H' → VOk K B W' v av → Q v H'
def rd (den : Env → T AV) : TE := fun σ H Q => ∃ W F ρ, Sim K Tb B W F ρ σ H ∧ Hold (den ρ) (RPost K Tb B W F ρ σ Q)
/-- .. of what can be read while the slots stay -/
def rb (den : Env → T PyData) : TE := fun σ H Q => ∃ W F ρ, Sim K Tb B W F ρ σ H ∧
  Hold (den ρ) fun d => ∀ W' H' v, Ext W W' → Sim K Tb B W' F ρ σ H' → (∀ W2 F2 H2, Ext W' W2 → Sim K Tb B W2 F2 ρ σ H2 → Rb K W2 H2 v d) → Q v H'
def rt (den : Env → T Bool) : TT := fun σ H Q => ∃ W F ρ, Sim K Tb B W F ρ σ H ∧ Hold (den ρ) fun b => ∀ W' H', Ext W W' → Sim K Tb B W' F ρ σ H' → Q b H'
/-- values one by one -/
inductive VAll (W : Wd) : List V → List AV → Prop
  | nil : VAll W [] []
  | cons {v : V} {vs : List V} {a : AV} {as : List AV} : VOk K B W v a → VAll W vs as → VAll W (v :: vs) (a :: as)
def ra (den : Env → T (List AV)) : TA := fun σ H Q => ∃ W F ρ, Sim K Tb B W F ρ σ H ∧ Hold (den ρ) fun as => ∀ W' H' vs, Ext W W' → Sim K Tb B W' F ρ σ H' → VAll K B W' vs as → Q vs H'
/-- arguments that are only read -/
inductive RbAll (W : Wd) (H : Hp) : List V → List PyData → Prop
  | nil : RbAll W H [] []
  | cons {v : V} {vs : List V} {d : PyData} {ds : List PyData} : Rb K W H v d → RbAll W H vs ds → RbAll W H (v :: vs) (d :: ds)
def rba (den : Env → T (List PyData)) : TA := fun σ H Q => ∃ W F ρ, Sim K Tb B W F ρ σ H ∧ Hold (den ρ) fun ds => ∀ W' H' vs, Ext W W' → Sim K Tb B W' F ρ σ H' → (∀ W2 F2 H2, Ext W' W2 → Sim K Tb B W2 F2 ρ σ H2 → RbAll K W2 H2 vs ds) → Q vs H'
/-- how a statement ends -/
inductive Out where
  | nx (ρ : Env)
  | rt (av : AV)
  | bk (ρ : Env)
  | ct (ρ : Env)
def OPost (W : Wd) (F : Hp) (D : Ends) : Out → Prop
  | .nx ρ => ∀ W' σ' H', Ext W W' → Sim K Tb B W' F ρ σ' H' → D.nx σ' H'
  | .bk ρ => ∀ W' σ' H', Ext W W' → Sim K Tb B W' F ρ σ' H' → D.bk σ' H'
  | .ct ρ => ∀ W' σ' H', Ext W W' → Sim K Tb B W' F ρ σ' H' → D.ct σ' H'
  | .rt (.own ds) => ∀ W' H' a vs, Ext W W' → F a = none → WOk Tb W' (upd F a (.lst vs)) H' → vs.length ≤ sizeLine → DpAll K W'.Φ vs ds → D.rt (.ref a) H'
  | .rt av => ∀ W' H' v, Ext W W' → WOk Tb W' F H' → VOk K B W' v av → D.rt v H'
def rs (den : Env → T Out) : TS := fun D σ H => ∃ W F ρ, Sim K Tb B W F ρ σ H ∧ Hold (den ρ) (OPost K Tb B W F D)
/-- the promise of a def: with n arguments it does f -/
def spD (n : Nat) (f : List AV → T AV) : Sp := fun vs H Q _ => ∃ W F as, WOk Tb W F H ∧ VAll K B W vs as ∧ as.length = n ∧ Hold (f as) fun
  | .own ds => ∀ W' H' a xs, Ext W W' → F a = none → WOk Tb W' (upd F a (.lst xs)) H' → xs.length ≤ sizeLine → DpAll K W'.Φ xs ds → Q (.ref a) H'
  | av => ∀ W' H' v, Ext W W' → WOk Tb W' F H' → VOk K B W' v av → Q v H'
end
/-! ### judgements with fixed surroundings -/
section
variable (Tb : List (Addr × Str)) (B : Wd → V → (List PyData → T PyData) → Prop) (X : Cx)
abbrev PD (e : Expr) (den : Env → T AV) : Prop := PE X e (rd X.K Tb B den)
abbrev PB (e : Expr) (den : Env → T PyData) : Prop := PE X e (rb X.K Tb B den)
abbrev PTD (e : Expr) (den : Env → T Bool) : Prop := PT X e (rt X.K Tb B den)
abbrev PAD (es : List Expr) (den : Env → T (List AV)) : Prop := PA X es (ra X.K Tb B den)
abbrev PAB (es : List Expr) (den : Env → T (List PyData)) : Prop := PA X es (rba X.K Tb B den)
abbrev PSD (st : Stmt) (den : Env → T Out) : Prop := PS X st (rs X.K Tb B den)
abbrev PSsD (st : List Stmt) (den : Env → T Out) : Prop := PSs X st (rs X.K Tb B den)
end
theorem PE.weaken {X : Cx} {e : Expr} {t t' : TE} (h : PE X e t) (f : ∀ σ H Q, t' σ H Q → t σ H Q) : PE X e t' := ⟨fun pins s σ H Q I q => h.run pins s σ H Q I (f σ H Q q)⟩
theorem PT.weaken {X : Cx} {e : Expr} {t t' : TT} (h : PT X e t) (f : ∀ σ H Q, t' σ H Q → t σ H Q) : PT X e t' := ⟨fun pins s σ H Q I q => h.run pins s σ H Q I (f σ H Q q)⟩
theorem PA.weaken {X : Cx} {e : List Expr} {t t' : TA} (h : PA X e t) (f : ∀ σ H Q, t' σ H Q → t σ H Q) : PA X e t' := ⟨fun pos pins s σ H Q I q => h.run pos pins s σ H Q I (f σ H Q q)⟩
theorem PS.weaken {X : Cx} {e : Stmt} {t t' : TS} (h : PS X e t) (f : ∀ D σ H, t' D σ H → t D σ H) : PS X e t' := ⟨fun pins s σ H D I q => h.run pins s σ H D I (f D σ H q)⟩
theorem PSs.weaken {X : Cx} {e : List Stmt} {t t' : TS} (h : PSs X e t) (f : ∀ D σ H, t' D σ H → t D σ H) : PSs X e t' := ⟨fun pins s σ H D I q => h.run pins s σ H D I (f D σ H q)⟩

section
variable {K : PySem.W.Frag} {Tb : List (Addr × Str)} {B : Wd → V → (List PyData → T PyData) → Prop} {W W' : Wd} {F F' H H' : Hp} {ρ ρ' : Env} {σ σ' : L2.St} {Q : VK}
theorem RPost.ext {av : AV} (e : Ext W W') (h : RPost K Tb B W F ρ σ Q av) : RPost K Tb B W' F ρ σ Q av := by
  cases av with
  | own ds => exact fun W2 H2 a vs e2 => h W2 H2 a vs (e.trans e2)
  | _ => exact fun W2 H2 v e2 => h W2 H2 v (e.trans e2)
theorem OPost.ext {o : Out} {D : Ends} (e : Ext W W') (h : OPost K Tb B W F D o) : OPost K Tb B W' F D o := by
  cases o with
  | rt av => cases av with
    | own ds => exact fun W2 H2 a vs e2 => h W2 H2 a vs (e.trans e2)
    | _ => exact fun W2 H2 v e2 => h W2 H2 v (e.trans e2)
  | _ => exact fun W2 s2 H2 e2 => h W2 s2 H2 (e.trans e2)
/-- an owned result is given to the world -/
def frz : AV → AV
  | .own ds => .sh (.list ds)
  | av => av
theorem RPost.frz {av : AV} (h : RPost K Tb B W F ρ σ Q (frz av)) : RPost K Tb B W F ρ σ Q av := by
  cases av with
  | own ds =>
    intro W1 H1 a vs e hn s hz hd
    obtain ⟨W2, e2, s2, d2⟩ := s.freeze hn hz hd
    exact h W2 H1 (.ref a) (e.trans e2) s2 d2
  | _ => exact h
/-- to data that is only read -/
def toD : AV → T PyData
  | .sh d => .ret d
  | .own ds => .ret (.list ds)
  | _ => .err
theorem Rb.get {i : Nat} {ds : List PyData} {v : V} (s : Sim K Tb B W F ρ σ H) (h : ρ[i]? = some (.own ds)) (hv : σ[i]? = some (some v)) : Rb K W H v (.list ds) := by
  obtain ⟨a, vs, q1, q2, qz, _, _, _, q6⟩ := s.s.own i ds h
  rw [hv] at q1; cases q1
  exact ⟨a, vs, rfl, .inl (.inl q2), qz, q6⟩
end

section
variable {Tb : List (Addr × Str)} {B : Wd → V → (List PyData → T PyData) → Prop} {X : Cx}
/-! ### names, constants -/
def slotD (ρ : Env) (i : Nat) : T PyData := match ρ[i]? with
  | some (.sh d) => .ret d
  | some (.own ds) => .ret (.list ds)
  | _ => .err
theorem pb_var {i : Nat} {e : Expr} (h : PE X e (tVar i)) : PB Tb B X e fun ρ => slotD ρ i := by
  refine PE.weaken h fun σ H Q ⟨W, F, ρ, s, q⟩ => ?_
  unfold slotD at q
  dsimp only at q
  cases e1 : ρ[i]? with
  | none => rw [e1] at q; exact q.elim
  | some av =>
    rw [e1] at q
    cases av with
    | sh d =>
      obtain ⟨v, h1, h2⟩ := s.get e1 (by intro z; cases z) (by intro ds z; cases z)
      exact ⟨v, h1, q W H v (Ext.refl W) s fun W2 F2 H2 e2 s2 => Rb.of s2.w (dp_le e2.φ _ _ h2)⟩
    | own ds =>
      obtain ⟨a, vs, q1, _⟩ := s.s.own i ds e1
      exact ⟨.ref a, q1, q W H _ (Ext.refl W) s fun W2 F2 H2 e2 s2 => Rb.get s2 e1 q1⟩
    | no => exact q.elim
    | pot => exact q.elim
    | fn g => exact q.elim
/-- a name whose list goes elsewhere is not owned any more: the slots that are given up ahead -/
def share1 (ρ : Env) (i : Nat) : Env := match ρ[i]? with
  | some (AV.own ds) => ρ.set i (AV.sh (PyData.list ds))
  | _ => ρ
def share (is : List Nat) (ρ : Env) : Env := is.foldl share1 ρ
def slotA (ρ : Env) (i : Nat) : T AV := match ρ[i]? with
  | some .no => .err
  | some (.own _) => .err
  | some av => .ret av
  | none => .err
theorem pd_var {i : Nat} {e : Expr} (h : PE X e (tVar i)) : PD Tb B X e fun ρ => slotA ρ i := by
  refine PE.weaken h fun σ H Q ⟨W, F, ρ, s, q⟩ => ?_
  unfold slotA at q
  dsimp only at q
  cases e1 : ρ[i]? with
  | none => rw [e1] at q; exact q.elim
  | some av =>
    rw [e1] at q
    cases av with
    | no => exact q.elim
    | own ds => exact q.elim
    | _ =>
      obtain ⟨v, h1, h2⟩ := s.get e1 (by intro z; cases z) (by intro ds z; cases z)
      exact ⟨v, h1, q W H v (Ext.refl W) s h2⟩
theorem pd_con {e : Expr} {v : V} {d : PyData} (h : PE X e (tC v)) (hd : ∀ H : Hp, Dp X.K H v d) : PD Tb B X e fun _ => T.ret (AV.sh d) :=
  PE.weaken h fun σ H Q ⟨W, F, ρ, s, q⟩ => q W H v (Ext.refl W) s (hd _)
theorem pd_int {i : Int} {j : Nat} {pos : Pos} : PD Tb B X (.Constant (.int i) j pos) fun _ => T.ret (AV.sh (.int i)) := pd_con pe_int fun _ => .int i
theorem pd_bl {b : Bool} {j : Nat} {pos : Pos} : PD Tb B X (.Constant (.bool b) j pos) fun _ => T.ret (AV.sh (.bool b)) := pd_con pe_bl fun _ => .bl b
theorem pd_non {j : Nat} {pos : Pos} : PD Tb B X (.Constant .none j pos) fun _ => T.ret (AV.sh .none) := pd_con pe_non fun _ => .non
theorem pd_str {x : Str} {j : Nat} {pos : Pos} : PD Tb B X (.Constant (.str x) j pos) fun _ => T.ret (AV.sh (.str x)) := pd_con pe_str fun _ => .str x
/-- what is known of a value may be read -/
theorem pb_of {e : Expr} {f : Env → T AV} (h : PD Tb B X e f) : PB Tb B X e fun ρ => (f ρ).bind toD := by
  refine PE.weaken h fun σ H Q ⟨W, F, ρ, s, q⟩ => ⟨W, F, ρ, s, (Hold.bind q).mono fun av z => ?_⟩
  cases av with
  | sh d => exact fun W' H' v e s' hv => z W' H' v e s' fun W2 F2 H2 e2 s2 => Rb.of s2.w (dp_le e2.φ _ _ hv)
  | own ds =>
    refine RPost.frz ?_
    exact fun W' H' v e s' hv => z W' H' v e s' fun W2 F2 H2 e2 s2 => Rb.of s2.w (dp_le e2.φ _ _ hv)
  | no => exact z.elim
  | pot => exact z.elim
  | fn g => exact z.elim
/-- the value is given to the world -/
theorem pd_frz {e : Expr} {f : Env → T AV} (h : PD Tb B X e f) : PD Tb B X e fun ρ => (f ρ).bind fun av => T.ret (frz av) :=
  PE.weaken h fun σ H Q ⟨W, F, ρ, s, q⟩ => ⟨W, F, ρ, s, (Hold.bind q).mono fun av z => RPost.frz z⟩

/-! ### operators of two values that are read -/
/-- r is what op asks of data: it hands back what f tells -/
def OpOk (Tb : List (Addr × Str)) (B : Wd → V → (List PyData → T PyData) → Prop) (K : PySem.W.Frag) (r : R2) (f : PyData → PyData → T AV) : Prop :=
  ∀ W F ρ σ H x y d e Q, Sim K Tb B W F ρ σ H → Rb K W H x d → Rb K W H y e → Hold (f d e) (RPost K Tb B W F ρ σ Q) → r x y H Q
theorem OpR.or {f : Value → Value → Sem Value} {r r' : R2} (h : OpR X f r) (h' : OpR X f r') : OpR X f fun x y H Q => r x y H Q ∨ r' x y H Q :=
  fun pins s σ H x y v u Q I a b z => z.elim (h pins s σ H x y v u Q I a b) (h' pins s σ H x y v u Q I a b)
theorem OpOk.run {r : R2} {f : PyData → PyData → T AV} {a b : Expr} {fa fb : Env → T PyData} (ok : OpOk Tb B X.K r f) {σ : L2.St} {H : Hp} {Q : VK}
    (h : rd X.K Tb B (fun ρ => (fa ρ).bind fun x => (fb ρ).bind fun y => f x y) σ H Q) : tOp r (rb X.K Tb B fa) (rb X.K Tb B fb) σ H Q := by
  obtain ⟨W, F, ρ, s, q⟩ := h
  refine ⟨W, F, ρ, s, (Hold.bind q).mono fun d z => fun W1 H1 v e1 s1 r1 => ?_⟩
  refine ⟨W1, F, ρ, s1, (Hold.bind z).mono fun d2 z2 => fun W2 H2 v2 e2 s2 r2 => ?_⟩
  exact ok W2 F ρ σ H2 v v2 d d2 Q s2 (r1 W2 F H2 e2 s2) (r2 W2 F H2 (Ext.refl _) s2) (z2.mono fun av => RPost.ext (e1.trans e2))
theorem pd_op {op : Operator} {r : R2} {f : PyData → PyData → T AV} {a b : Expr} {fa fb : Env → T PyData} {pos : Pos} (hr : OpR X (binaryOp op) r) (ok : OpOk Tb B X.K r f) (ha : PB Tb B X a fa) (hb : PB Tb B X b fb) :
    PD Tb B X (.BinOp a op b pos) fun ρ => (fa ρ).bind fun x => (fb ρ).bind fun y => f x y := PE.weaken (pe_op hr ha hb) fun _ _ _ h => ok.run (a := a) (b := b) h
theorem pd_cmp {op : CmpOp} {r : R2} {f : PyData → PyData → T AV} {a b : Expr} {fa fb : Env → T PyData} {pos : Pos} (hr : OpR X (compareOp op) r) (ok : OpOk Tb B X.K r f) (ha : PB Tb B X a fa) (hb : PB Tb B X b fb) (hm : behindInMarks op b = false) :
    PD Tb B X (.Compare a [op] [b] pos) fun ρ => (fa ρ).bind fun x => (fb ρ).bind fun y => f x y := PE.weaken (pe_cmpR hr ha hb hm) fun _ _ _ h => ok.run (a := a) (b := b) h
/-! ### tests -/
def toB : AV → T Bool
  | .sh (.bool b) => .ret b
  | _ => .err
theorem RPost.bl {K : PySem.W.Frag} {W : Wd} {F : Hp} {ρ : Env} {σ : L2.St} {Qb : Bool → Hp → Prop} {av : AV} (h : Hold (toB av) fun b => ∀ W' H', Ext W W' → Sim K Tb B W' F ρ σ H' → Qb b H') : RPost K Tb B W F ρ σ (fun x H' => ∃ k, x = V.bl k ∧ Qb k H') av := by
  cases av with
  | sh d => cases d with
    | bool b =>
      intro W' H' v e s hv
      cases hv
      exact ⟨b, rfl, h W' H' e s⟩
    | _ => exact h.elim
  | _ => exact h.elim
theorem pt_d {e : Expr} {f : Env → T AV} (h : ∀ t, PE X e t → PT X e (tTest t)) (hd : PD Tb B X e f) : PTD Tb B X e fun ρ => (f ρ).bind toB :=
  PT.weaken (h _ hd) fun σ H Q ⟨W, F, ρ, s, q⟩ => ⟨W, F, ρ, s, (Hold.bind q).mono fun av z => RPost.bl z⟩
/-- an expression's value as a test -/
theorem ptd_val {e : Expr} {f : Env → T AV} (hd : PD Tb B X e f) (he : ∀ whole, isTrue e X.env whole = (do let v ← whole; standAt e.pos; holding [v] (truthy v)) := by intro _; rfl) : PTD Tb B X e fun ρ => (f ρ).bind toB :=
  pt_d (fun t h => pt_val h he) hd
theorem ptd_cmp {op : CmpOp} {r : R2} {f : PyData → PyData → T AV} {a b : Expr} {fa fb : Env → T PyData} {pos : Pos} (hr : OpR X (compareOp op) r) (ok : OpOk Tb B X.K r f) (ha : PB Tb B X a fa) (hb : PB Tb B X b fb) (hm : behindInMarks op b = false) :
    PTD Tb B X (.Compare a [op] [b] pos) fun ρ => ((fa ρ).bind fun x => (fb ρ).bind fun y => f x y).bind toB := by
  refine PT.weaken (pt_cmpR hr ha hb hm) fun σ H Q ⟨W, F, ρ, s, q⟩ => ?_
  exact ok.run (a := a) (b := b) ⟨W, F, ρ, s, (Hold.bind q).mono fun av z => RPost.bl z⟩
theorem ptd_not {a : Expr} {f : Env → T Bool} {pos : Pos} (ha : PTD Tb B X a f) : PTD Tb B X (.UnaryOp .Not a pos) fun ρ => (f ρ).bind fun b => .ret (!b) :=
  PT.weaken (pt_not ha) fun σ H Q ⟨W, F, ρ, s, q⟩ => ⟨W, F, ρ, s, (Hold.bind q).mono fun b z => z⟩
theorem pd_not {a : Expr} {f : Env → T AV} {pos : Pos} (ha : PD Tb B X a f) : PD Tb B X (.UnaryOp .Not a pos) fun ρ => ((f ρ).bind toB).bind fun b => .ret (.sh (.bool (!b))) := by
  refine PE.weaken (pe_not ha) fun σ H Q ⟨W, F, ρ, s, q⟩ => ⟨W, F, ρ, s, (Hold.bind (Hold.bind q)).mono fun av z => RPost.bl (z.mono fun b z => ?_)⟩
  exact fun W' H' e s' => z W' H' _ e s' (.bl _)
/-- and, or in a test: a chain -/
abbrev PWD (Tb : List (Addr × Str)) (B : Wd → V → (List PyData → T PyData) → Prop) (X : Cx) (e : Expr) (den : Env → T Bool) : Prop := PW X e (rt X.K Tb B den)
theorem PW.weaken {e : Expr} {t t' : TT} (h : PW X e t) (f : ∀ σ H Q, t' σ H Q → t σ H Q) : PW X e t' := ⟨fun wh pins s σ H Q I q => h.run wh pins s σ H Q I (f σ H Q q)⟩
theorem pwd_and1 {a : Expr} {f : Env → T Bool} {pos : Pos} (ha : PTD Tb B X a f) : PWD Tb B X (.BoolOp .And [a] pos) f := pw_and1 ha
theorem pwd_or1 {a : Expr} {f : Env → T Bool} {pos : Pos} (ha : PTD Tb B X a f) : PWD Tb B X (.BoolOp .Or [a] pos) f := pw_or1 ha
theorem ite_c {c : Bool} {α : Type} {a b : T α} {p : α → Prop} {A B : Prop} (h : Hold (if c = true then a else b) p) (f : Hold a p → A) (g : Hold b p → B) : if c = true then A else B := by
  cases c with
  | true => exact f h
  | false => exact g h
theorem pwd_and {a b : Expr} {rest : List Expr} {f g : Env → T Bool} {pos : Pos} (ha : PTD Tb B X a f) (hb : PWD Tb B X (.BoolOp .And (b :: rest) pos) g) :
    PWD Tb B X (.BoolOp .And (a :: b :: rest) pos) fun ρ => (f ρ).bind fun x => if x = true then g ρ else .ret false := by
  refine PW.weaken (pw_and ha hb) fun σ H Q ⟨W, F, ρ, s, q⟩ => ⟨W, F, ρ, s, (Hold.bind q).mono fun c z => fun W1 H1 e1 s1 => ite_c z (fun z => ?_) fun z => ?_⟩
  · exact ⟨W1, F, ρ, s1, z.mono fun b z W2 H2 e2 s2 => z W2 H2 (e1.trans e2) s2⟩
  · exact z W1 H1 e1 s1
theorem pwd_or {a b : Expr} {rest : List Expr} {f g : Env → T Bool} {pos : Pos} (ha : PTD Tb B X a f) (hb : PWD Tb B X (.BoolOp .Or (b :: rest) pos) g) :
    PWD Tb B X (.BoolOp .Or (a :: b :: rest) pos) fun ρ => (f ρ).bind fun x => if x = true then .ret true else g ρ := by
  refine PW.weaken (pw_or ha hb) fun σ H Q ⟨W, F, ρ, s, q⟩ => ⟨W, F, ρ, s, (Hold.bind q).mono fun c z => fun W1 H1 e1 s1 => ite_c z (fun z => ?_) fun z => ?_⟩
  · exact z W1 H1 e1 s1
  · exact ⟨W1, F, ρ, s1, z.mono fun b z W2 H2 e2 s2 => z W2 H2 (e1.trans e2) s2⟩
/-- and, or as values: all but the last one True or False -/
theorem pd_one {op : BoolOp} {a : Expr} {f : Env → T AV} {pos : Pos} (ha : PD Tb B X a f) : PD Tb B X (.BoolOp op [a] pos) f := pe_one ha
theorem pd_and {a b : Expr} {rest : List Expr} {f g : Env → T AV} {pos : Pos} (ha : PD Tb B X a f) (hb : PD Tb B X (.BoolOp .And (b :: rest) pos) g) :
    PD Tb B X (.BoolOp .And (a :: b :: rest) pos) fun ρ => ((f ρ).bind toB).bind fun x => if x = true then g ρ else .ret (.sh (.bool false)) := by
  refine PE.weaken (pe_and ha hb) fun σ H Q ⟨W, F, ρ, s, q⟩ => ⟨W, F, ρ, s, (Hold.bind (Hold.bind q)).mono fun av z => RPost.bl (z.mono fun c z => fun W1 H1 e1 s1 => ite_c z (fun z => ?_) fun z => ?_)⟩
  · exact ⟨W1, F, ρ, s1, z.mono fun av => RPost.ext e1⟩
  · exact z W1 H1 _ e1 s1 (.bl false)
theorem pd_or {a b : Expr} {rest : List Expr} {f g : Env → T AV} {pos : Pos} (ha : PD Tb B X a f) (hb : PD Tb B X (.BoolOp .Or (b :: rest) pos) g) :
    PD Tb B X (.BoolOp .Or (a :: b :: rest) pos) fun ρ => ((f ρ).bind toB).bind fun x => if x = true then .ret (.sh (.bool true)) else g ρ := by
  refine PE.weaken (pe_or ha hb) fun σ H Q ⟨W, F, ρ, s, q⟩ => ⟨W, F, ρ, s, (Hold.bind (Hold.bind q)).mono fun av z => RPost.bl (z.mono fun c z => fun W1 H1 e1 s1 => ite_c z (fun z => ?_) fun z => ?_)⟩
  · exact z W1 H1 _ e1 s1 (.bl true)
  · exact ⟨W1, F, ρ, s1, z.mono fun av => RPost.ext e1⟩
theorem pd_if {c a b : Expr} {fc : Env → T Bool} {f g : Env → T AV} {pos : Pos} (hc : PTD Tb B X c fc) (ha : PD Tb B X a f) (hb : PD Tb B X b g) : PD Tb B X (.IfExp c a b pos) fun ρ => (fc ρ).bind fun x => if x = true then f ρ else g ρ := by
  refine PE.weaken (pe_ifExp hc ha hb) fun σ H Q ⟨W, F, ρ, s, q⟩ => ⟨W, F, ρ, s, (Hold.bind q).mono fun c z => fun W1 H1 e1 s1 => ite_c z (fun z => ?_) fun z => ?_⟩
  · exact ⟨W1, F, ρ, s1, z.mono fun av => RPost.ext e1⟩
  · exact ⟨W1, F, ρ, s1, z.mono fun av => RPost.ext e1⟩
/-- a < b < c -/
theorem ptd_chain {op op' : CmpOp} {r r' : R2} {f f' : PyData → PyData → T AV} {a b c : Expr} {fa fb fc : Env → T PyData} {pos : Pos} (hr : OpR X (compareOp op) r) (hr' : OpR X (compareOp op') r') (ok : OpOk Tb B X.K r f) (ok' : OpOk Tb B X.K r' f')
    (ha : PB Tb B X a fa) (hb : PB Tb B X b fb) (hc : PB Tb B X c fc) (hl : lastMarks [op, op'] [b, c] = false := by rfl) :
    PD Tb B X (.Compare a [op, op'] [b, c] pos) fun ρ => (fa ρ).bind fun x => (fb ρ).bind fun y => ((f x y).bind toB).bind fun k => if k = true then (fc ρ).bind fun z => f' y z else .ret (.sh (.bool false)) := by
  refine PE.weaken (pe_chain hr hr' ha hb hc hl) fun σ H Q ⟨W, F, ρ, s, q⟩ => ?_
  refine ⟨W, F, ρ, s, (Hold.bind q).mono fun d z => fun W1 H1 v e1 s1 r1 => ?_⟩
  refine ⟨W1, F, ρ, s1, (Hold.bind z).mono fun d2 z2 => fun W2 H2 v2 e2 s2 r2 => ?_⟩
  refine ok W2 F ρ σ H2 v v2 d d2 _ s2 (r1 W2 F H2 e2 s2) (r2 W2 F H2 (Ext.refl _) s2) ((Hold.bind (Hold.bind z2)).mono fun av z => RPost.bl (z.mono fun k z => fun W3 H3 e3 s3 => ite_c z (fun z => ?_) fun z => ?_))
  · refine ⟨W3, F, ρ, s3, (Hold.bind z).mono fun d3 z3 => fun W4 H4 v4 e4 s4 r4 => ?_⟩
    exact ok' W4 F ρ σ H4 v2 v4 d2 d3 Q s4 (r2 W4 F H4 (e3.trans e4) s4) (r4 W4 F H4 (Ext.refl _) s4) (z3.mono fun av => RPost.ext ((e1.trans e2).trans (e3.trans e4)))
  · exact z W3 H3 _ ((e1.trans e2).trans e3) s3 (.bl false)
end
end Dn
end
section
set_option Elab.async false
set_option linter.all false
set_option autoImplicit false
set_option maxRecDepth 100000
/-! Dn2: displays, calls, subscripts, what is walked, comprehensions. -/
namespace Dn
open PySem PySem.Spec PyProof.Rows L2 LamX

section
variable {K : PySem.W.Frag} {Tb : List (Addr × Str)} {B : Wd → V → (List PyData → T PyData) → Prop} {W W' : Wd} {F F' H H' : Hp} {ρ ρ' : Env} {σ σ' : L2.St} {Q : VK}
/-- v holds av, an owned list in the frame -/
def Got (K : PySem.W.Frag) (B : Wd → V → (List PyData → T PyData) → Prop) (W : Wd) (F : Hp) (v : V) (F' : Hp) : AV → Prop
  | .own ds => ∃ a vs, v = .ref a ∧ F a = none ∧ F' = upd F a (.lst vs) ∧ vs.length ≤ sizeLine ∧ DpAll K W.Φ vs ds
  | av => F' = F ∧ VOk K B W v av
theorem rpost_of {av : AV} (h : ∀ W' H' v F', Ext W W' → Got K B W' F v F' av → Sim K Tb B W' F' ρ σ H' → Q v H') : RPost K Tb B W F ρ σ Q av := by
  cases av with
  | own ds => exact fun W' H' a vs e hn s hz hd => h W' H' _ _ e ⟨a, vs, rfl, hn, rfl, hz, hd⟩ s
  | _ => exact fun W' H' v e s hv => h W' H' v F e ⟨rfl, hv⟩ s
theorem RPost.use {av : AV} (h : RPost K Tb B W F ρ σ Q av) {v : V} (e : Ext W W') (g : Got K B W' F v F' av) (s : Sim K Tb B W' F' ρ σ H') : Q v H' := by
  cases av with
  | own ds =>
    obtain ⟨a, vs, rfl, hn, rfl, hz, hd⟩ := g
    exact h W' H' a vs e hn s hz hd
  | _ =>
    obtain ⟨rfl, hv⟩ := g
    exact h W' H' v e s hv
theorem Got.ext {v : V} {av : AV} (e : Ext W W') (g : Got K B W F v F' av) : Got K B W' F v F' av := by
  cases av with
  | own ds =>
    obtain ⟨a, vs, h1, hn, h2, hz, hd⟩ := g
    exact ⟨a, vs, h1, hn, h2, hz, dpAll_le e.φ _ _ hd⟩
  | _ => exact ⟨g.1, VOk.ext (av := _) e g.2⟩
theorem Got.le {v : V} {av : AV} (g : Got K B W F v F' av) : ∀ a o, F a = some o → F' a = some o := by
  cases av with
  | own ds =>
    obtain ⟨a, vs, h1, hn, rfl, _⟩ := g
    exact upd_le hn
  | _ => exact fun a o h => by rw [g.1]; exact h
theorem Sim.put {v : V} {av : AV} {i : Nat} (g : Got K B W F v F' av) (s : Sim K Tb B W F' ρ σ H) (hno : av ≠ .no) : Sim K Tb B W F (ρ.set i av) (σ.set i (some v)) H := by
  cases av with
  | own ds =>
    obtain ⟨a, vs, rfl, hn, rfl, hz, hd⟩ := g
    exact s.setOwn hn hz hd
  | no => exact absurd rfl hno
  | _ =>
    obtain ⟨rfl, hv⟩ := g
    exact s.set hv
end
/-- data behind: frozen -/
def toS : AV → T PyData
  | .sh d => .ret d
  | .own ds => .ret (.list ds)
  | _ => .err
section
variable {K : PySem.W.Frag} {Tb : List (Addr × Str)} {B : Wd → V → (List PyData → T PyData) → Prop} {W W' : Wd} {F F' H H' : Hp} {ρ ρ' : Env} {σ σ' : L2.St} {Q : VK}
/-- what is wanted of frozen data -/
theorem RPost.shd {av : AV} (h : Hold (toS av) fun d => ∀ W' H' v, Ext W W' → Sim K Tb B W' F ρ σ H' → Dp K W'.Φ v d → Q v H') : RPost K Tb B W F ρ σ Q av := by
  cases av with
  | sh d => exact h
  | own ds => exact RPost.frz h
  | _ => exact h.elim
end

section
variable {Tb : List (Addr × Str)} {B : Wd → V → (List PyData → T PyData) → Prop} {X : Cx}
/-! ### arguments -/
theorem pad_nil : PAD Tb B X [] fun _ => .ret [] := PA.weaken pa_nil fun σ H Q ⟨W, F, ρ, s, q⟩ => q W H [] (Ext.refl W) s .nil
theorem VAll.ext {K : PySem.W.Frag} {W W' : Wd} (e : Ext W W') {vs : List V} {as : List AV} (h : VAll K B W vs as) : VAll K B W' vs as := by
  induction h with
  | nil => exact .nil
  | cons h1 _ ih => exact .cons (h1.ext e) ih
theorem pad_cons {e : Expr} {es : List Expr} {f : Env → T AV} {g : Env → T (List AV)} (he : PD Tb B X e f) (hes : PAD Tb B X es g)
    (hst : starEach (e :: es) X.env = (false, eval e X.env) :: starEach es X.env := by rfl) : PAD Tb B X (e :: es) fun ρ => (f ρ).bind fun a => (g ρ).bind fun as => .ret (frz a :: as) := by
  refine PA.weaken (pa_cons he hes hst) fun σ H Q ⟨W, F, ρ, s, q⟩ => ⟨W, F, ρ, s, (Hold.bind q).mono fun av z => RPost.frz ?_⟩
  have key : ∀ aw : AV, aw = frz av → RPost X.K Tb B W F ρ σ (fun x H1 => ra X.K Tb B g σ H1 fun xs H2 => Q (x :: xs) H2) aw := by
    intro aw haw
    have nown : ∀ ds, aw ≠ .own ds := fun ds e => by cases av <;> simp [frz] at haw <;> subst haw <;> cases e
    have main : ∀ W' H' v, Ext W W' → Sim X.K Tb B W' F ρ σ H' → VOk X.K B W' v aw → ra X.K Tb B g σ H' fun xs H2 => Q (v :: xs) H2 := fun W1 H1 v e1 s1 hv =>
      ⟨W1, F, ρ, s1, (Hold.bind z).mono fun as z2 => fun W2 H2 vs e2 s2 hvs => z2 W2 H2 (v :: vs) (e1.trans e2) s2 (haw ▸ .cons (hv.ext e2) hvs)⟩
    cases aw with
    | own ds => exact absurd rfl (nown ds)
    | _ => exact main
  exact key _ rfl
theorem pab_nil : PAB Tb B X [] fun _ => .ret [] := PA.weaken pa_nil fun σ H Q ⟨W, F, ρ, s, q⟩ => q W H [] (Ext.refl W) s fun _ _ _ _ _ => .nil
theorem pab_cons {e : Expr} {es : List Expr} {f : Env → T PyData} {g : Env → T (List PyData)} (he : PB Tb B X e f) (hes : PAB Tb B X es g)
    (hst : starEach (e :: es) X.env = (false, eval e X.env) :: starEach es X.env := by rfl) : PAB Tb B X (e :: es) fun ρ => (f ρ).bind fun a => (g ρ).bind fun as => .ret (a :: as) := by
  refine PA.weaken (pa_cons he hes hst) fun σ H Q ⟨W, F, ρ, s, q⟩ => ⟨W, F, ρ, s, (Hold.bind q).mono fun d z => fun W1 H1 v e1 s1 r1 => ?_⟩
  refine ⟨W1, F, ρ, s1, (Hold.bind z).mono fun ds z2 => fun W2 H2 vs e2 s2 r2 => z2 W2 H2 (v :: vs) (e1.trans e2) s2 fun W3 F3 H3 e3 s3 => .cons (r1 W3 F3 H3 (e2.trans e3) s3) (r2 W3 F3 H3 e3 s3)⟩
/-! ### displays -/
def allS : List AV → T (List PyData)
  | [] => .ret []
  | a :: as => (toS a).bind fun d => (allS as).bind fun ds => .ret (d :: ds)
def mkLst (as : List AV) : T AV := (allS as).bind fun ds => if ds.length ≤ 4000 then .ret (.own ds) else .err
def mkTup (as : List AV) : T AV := (allS as).bind fun ds => if ds.length ≤ 4000 then .ret (.sh (.tuple ds)) else .err
theorem VAll.data {K : PySem.W.Frag} {W : Wd} : ∀ {as : List AV} {vs : List V} {p : List PyData → Prop}, VAll K B W vs as → (∀ a ∈ as, ∀ ds, a ≠ .own ds) → Hold (allS as) p → ∃ ds, DpAll K W.Φ vs ds ∧ p ds
  | [], _, p, h, _, q => by cases h; exact ⟨[], .nil, q⟩
  | a :: as, _, p, h, hn, q => by
    cases h with
    | cons h1 h2 =>
      have q := Hold.bind q
      cases a with
      | sh d =>
        obtain ⟨ds, r1, r2⟩ := VAll.data (p := fun ds => p (d :: ds)) h2 (fun b hb => hn b (List.mem_cons_of_mem _ hb)) (Hold.bind q)
        exact ⟨d :: ds, .cons h1 r1, r2⟩
      | own ds => exact absurd rfl (hn _ List.mem_cons_self ds)
      | _ => exact q.elim
theorem VAll.noown {K : PySem.W.Frag} {W : Wd} {vs : List V} {as : List AV} (h : VAll K B W vs as) : ∀ a ∈ as, ∀ ds, a ≠ .own ds := by
  induction h with
  | nil => intro a ha; cases ha
  | cons h1 _ ih =>
    intro a ha ds e
    rcases List.mem_cons.mp ha with rfl | ha
    · subst e; exact h1
    · exact ih a ha ds e
theorem hold_if {α : Type} {c : Prop} [Decidable c] {m : T α} {p : α → Prop} (h : Hold (if c then m else .err) p) : c ∧ Hold m p := by
  by_cases hc : c
  · rw [if_pos hc] at h; exact ⟨hc, h⟩
  · rw [if_neg hc] at h; exact h.elim
theorem line4000 {n : Nat} (h : n ≤ 4000) : n ≤ sizeLine := Nat.le_trans h (by decide)
theorem pd_lst {es : List Expr} {f : Env → T (List AV)} {pos : Pos} (h : PAD Tb B X es f) : PD Tb B X (.List es pos) fun ρ => (f ρ).bind mkLst := by
  refine PE.weaken (pe_lst h) fun σ H Q ⟨W, F, ρ, s, q⟩ => ⟨W, F, ρ, s, (Hold.bind q).mono fun as z => fun W1 H1 vs e1 s1 hv => ?_⟩
  obtain ⟨ds, hd, z⟩ := hv.data hv.noown (Hold.bind z)
  obtain ⟨hz, z⟩ := hold_if z
  refine ⟨by rw [DpAll.len hd]; exact line4000 hz, fun p hp => ?_⟩
  obtain ⟨hF, s2⟩ := s1.new (vs := vs) hp
  exact z W1 _ p vs e1 hF s2 (by rw [DpAll.len hd]; exact line4000 hz) hd
theorem pd_tup {es : List Expr} {f : Env → T (List AV)} {k : Nat} {pos : Pos} (h : PAD Tb B X es f) : PD Tb B X (.Tuple es k pos) fun ρ => (f ρ).bind mkTup := by
  refine PE.weaken (pe_tup h) fun σ H Q ⟨W, F, ρ, s, q⟩ => ⟨W, F, ρ, s, (Hold.bind q).mono fun as z => fun W1 H1 vs e1 s1 hv => ?_⟩
  obtain ⟨ds, hd, z⟩ := hv.data hv.noown (Hold.bind z)
  obtain ⟨hz, z⟩ := hold_if z
  have hz' : vs.length ≤ sizeLine := by rw [DpAll.len hd]; exact line4000 hz
  refine ⟨hz', fun p hp => ?_⟩
  obtain ⟨W2, e2, s2, h2⟩ := s1.made (o := .tup vs) hp (by intro ps z; cases z) (by rintro xs (e | e | ⟨_, e⟩ | ⟨_, e⟩) <;> cases e; exact hz')
  exact z W2 _ (.ref p) (e1.trans e2) s2 (.tup (.inl (.inl h2)) (dpAll_le e2.φ _ _ hd))
/-! ### calls of own defs -/
theorem sp_use {σ : L2.St} {n : Nat} {f : List AV → T AV} {W W1 : Wd} {F : Hp} {ρ : Env} {H1 : Hp} {vs : List V} {as : List AV} {Q : VK} {E : XK} (e1 : Ext W W1) (s1 : Sim X.K Tb B W1 F ρ σ H1) (hv : VAll X.K B W1 vs as) (hn : as.length = n)
    (z : Hold (f as) (RPost X.K Tb B W F ρ σ Q)) : spD X.K Tb B n f vs H1 Q E := by
  refine ⟨W1, pack ρ σ F H1, as, s1.packed, hv, hn, z.mono fun av z => ?_⟩
  cases av with
  | own ds =>
    intro W2 H2 a xs e2 hpn w hz hd
    obtain ⟨hF, s2⟩ := s1.backOwn e2 hpn w
    exact z W2 H2 a xs (e1.trans e2) hF s2 hz hd
  | _ => exact fun W2 H2 v e2 w hv => z W2 H2 v (e1.trans e2) (s1.back e2 w) hv
def calling (n : Nat) (f : List AV → T AV) (as : List AV) : T AV := if as.length = n then f as else .err
theorem pd_call {k n : Nat} {f : Addr} {fd : FuncData} {ps : List Str} {d : List AV → T AV} {x : Str} {p pos : Pos} {e : Expr} {es : List Expr} {g : Env → T (List AV)}
    (G : FnOk X.prog X.w X.K X.mg X.base CX0 k f fd ps (spD X.K Tb B n d)) (hr : Room k X.A) (hg : Gl X x) (hm : X.mg x = some (.ref f)) (kp : PySem.W.keepIn X.K (.ref f) = true) (b : Binds X.K fd ps []) (ha : PAD Tb B X (e :: es) g)
    (hdb : (x == ("__debug__" : Str)) = false := by decide) (he : starEach (e :: es) X.env = (false, eval e X.env) :: starEach es X.env := by rfl) (hpl : (backTo pos (starEach es X.env)).any (·.1) = false := by rfl) :
    PD Tb B X (.Call (.Name x p) (e :: es) [] pos) fun ρ => (g ρ).bind (calling n d) := by
  refine PE.weaken (pe_call (dvs := []) (E := E0) G hr hg hm kp b .nil pass0 ha hdb he hpl) fun σ H Q ⟨W, F, ρ, s, q⟩ => ⟨W, F, ρ, s, (Hold.bind q).mono fun as z => fun W1 H1 vs e1 s1 hv => ?_⟩
  obtain ⟨hn, z⟩ := hold_if z
  rw [List.append_nil]
  exact sp_use e1 s1 hv hn z
/-! ### calls of built-ins, of what is read -/
def CallOk (Tb : List (Addr × Str)) (B : Wd → V → (List PyData → T PyData) → Prop) (K : PySem.W.Frag) (r : List V → Hp → VK → Prop) (f : List PyData → T AV) : Prop :=
  ∀ W F ρ σ H vs ds Q, Sim K Tb B W F ρ σ H → RbAll K W H vs ds → Hold (f ds) (RPost K Tb B W F ρ σ Q) → r vs H Q
theorem CallOk.run {r : List V → Hp → VK → Prop} {f : List PyData → T AV} {es : List Expr} {g : Env → T (List PyData)} (ok : CallOk Tb B X.K r f) {σ : L2.St} {H : Hp} {Q : VK}
    (h : rd X.K Tb B (fun ρ => (g ρ).bind f) σ H Q) : tCB r (rba X.K Tb B g) σ H Q := by
  obtain ⟨W, F, ρ, s, q⟩ := h
  refine ⟨W, F, ρ, s, (Hold.bind q).mono fun ds z => fun W1 H1 vs e1 s1 r1 => ?_⟩
  exact ok W1 F ρ σ H1 vs ds Q s1 (r1 W1 F H1 (Ext.refl _) s1) (z.mono fun av => RPost.ext e1)
theorem pd_blt {x : Str} {p pos : Pos} {e : Expr} {es : List Expr} {id : String} {r : List V → Hp → VK → Prop} {f : List PyData → T AV} {g : Env → T (List PyData)} (hc : CallR X (.builtin id) r) (ok : CallOk Tb B X.K r f) (hg : Gl X x) (hm : X.mg x = none)
    (hb : bootBuiltins x = some (.builtin id)) (ha : PAB Tb B X (e :: es) g) (hn : x ≠ "__name__" := by decide) (hd : (x == ("__debug__" : Str)) = false := by decide)
    (he : starEach (e :: es) X.env = (false, eval e X.env) :: starEach es X.env := by rfl) (hpl : (backTo pos (starEach es X.env)).any (·.1) = false := by rfl) : PD Tb B X (.Call (.Name x p) (e :: es) [] pos) fun ρ => (g ρ).bind f :=
  PE.weaken (pe_callB hc hg hm hb ha hn hd he hpl) fun _ _ _ h => ok.run (es := e :: es) h
theorem pd_ty {x : Str} {p pos : Pos} {e : Expr} {es : List Expr} {id : String} {r : List V → Hp → VK → Prop} {f : List PyData → T AV} {g : Env → T (List PyData)} (hc : CallR X (.type id) r) (ok : CallOk Tb B X.K r f) (hg : Gl X x) (hm : X.mg x = none)
    (hb : bootBuiltins x = some (.type id)) (ha : PAB Tb B X (e :: es) g) (hn : x ≠ "__name__" := by decide) (hd : (x == ("__debug__" : Str)) = false := by decide)
    (he : starEach (e :: es) X.env = (false, eval e X.env) :: starEach es X.env := by rfl) (hpl : (backTo pos (starEach es X.env)).any (·.1) = false := by rfl) : PD Tb B X (.Call (.Name x p) (e :: es) [] pos) fun ρ => (g ρ).bind f :=
  PE.weaken (pe_callTy hc hg hm hb ha hn hd he hpl) fun _ _ _ h => ok.run (es := e :: es) h
theorem CallR.or {f : Value} {r r' : List V → Hp → VK → Prop} (h : CallR X f r) (h' : CallR X f r') : CallR X f fun xs H Q => r xs H Q ∨ r' xs H Q :=
  fun pins s σ H xs us Q I b z => z.elim (h pins s σ H xs us Q I b) (h' pins s σ H xs us Q I b)
/-! ### subscripts -/
theorem pd_ix {a b : Expr} {r : R2} {f : PyData → PyData → T AV} {fa fb : Env → T PyData} {pos : Pos} (hr : IxR X r) (ok : OpOk Tb B X.K r f) (ha : PB Tb B X a fa) (hb : PB Tb B X b fb) (hp : PlainIx b) :
    PD Tb B X (.Subscript a b pos) fun ρ => (fa ρ).bind fun x => (fb ρ).bind fun y => f x y := PE.weaken (pe_ix hr ha hb hp) fun _ _ _ h => ok.run (a := a) (b := b) h
/-- a slice's part -/
def ro (K : PySem.W.Frag) (den : Env → T (Option Int)) : TO := fun σ H Q => ∃ W F ρ, Sim K Tb B W F ρ σ H ∧ Hold (den ρ) fun o => ∀ W' H', Ext W W' → Sim K Tb B W' F ρ σ H' → Q o H'
def toI : PyData → T Int
  | .int i => .ret i
  | _ => .err
theorem PO.weaken {e : Option Expr} {t t' : TO} (h : PO X e t) (f : ∀ σ H Q, t' σ H Q → t σ H Q) : PO X e t' := ⟨fun pins s σ H R I q => h.run pins s σ H R I (by
  exact f _ _ _ q)⟩
theorem po_none' : PO X none (ro (Tb := Tb) (B := B) X.K fun _ => .ret none) := PO.weaken po_none fun σ H Q ⟨W, F, ρ, s, q⟩ => q W H (Ext.refl _) s
theorem po_some' {e : Expr} {f : Env → T PyData} (h : PB Tb B X e f) : PO X (some e) (ro (Tb := Tb) (B := B) X.K fun ρ => (f ρ).bind fun d => (toI d).bind fun i => .ret (some i)) := by
  refine PO.weaken (po_some h) fun σ H Q ⟨W, F, ρ, s, q⟩ => ⟨W, F, ρ, s, (Hold.bind q).mono fun d z => fun W1 H1 v e1 s1 r1 => ?_⟩
  cases d with
  | int i =>
    have r := r1 W1 F H1 (Ext.refl _) s1
    cases r
    exact ⟨i, rfl, z W1 H1 e1 s1⟩
  | _ => exact z.elim
end
end Dn
end
section
set_option Elab.async false
set_option linter.all false
set_option autoImplicit false
set_option maxRecDepth 100000
/-! Dn3: what is walked, comprehensions, statements, defs. -/
namespace Dn
open PySem PySem.Spec PyProof.Rows L2 LamX

/-- an owned list of the frame is changed -/
theorem Sim.remake {K : PySem.W.Frag} {Tb : List (Addr × Str)} {B : Wd → V → (List PyData → T PyData) → Prop} {W : Wd} {F : Hp} {ρ : Env} {σ : L2.St} {H : Hp} {a : Addr} {vs vs' : List V} (hn : F a = none) (s : Sim K Tb B W (upd F a (.lst vs)) ρ σ H) : Sim K Tb B W (upd F a (.lst vs')) ρ σ (upd H a (.lst vs')) := by
  obtain ⟨d1, d2⟩ := s.w.dj a _ upd_same
  have hH := s.w.fr a _ upd_same
  have nW : ∀ b o, W.Φ b = some o → b ≠ a := fun b o e => ne_of_none e d1
  have nP : ∀ b, W.P b → b ≠ a := fun b e z => d2 (z ▸ e)
  refine ⟨⟨fun b o e => by rw [upd_ne (nW b o e)]; exact s.w.fz b o e, fun b o e => ?_, fun b o e => ?_, fun b hb => ?_, fun p hp => ?_, fun b o e => ?_, s.w.sz, fun b u e => by
    by_cases hb : b = a
    · rw [hb, upd_same] at e; cases e; exact ⟨_, rfl⟩
    · rw [upd_ne hb] at e; exact s.w.fl b u (by rw [upd_ne hb]; exact e)⟩, ⟨s.s.len, s.s.sh, fun i ds h => ?_, s.s.ne⟩⟩
  · by_cases hb : b = a
    · subst hb; rw [upd_same] at e ⊢; exact e
    · rw [upd_ne hb] at e ⊢
      exact s.w.fr b o (by rw [upd_ne hb]; exact e)
  · by_cases hb : b = a
    · subst hb; exact ⟨d1, d2⟩
    · rw [upd_ne hb] at e
      exact s.w.dj b o (by rw [upd_ne hb]; exact e)
  · obtain ⟨h1, x, y, h2, h3⟩ := s.w.pt b hb
    exact ⟨h1, x, y, by rw [upd_ne (nP b hb)]; exact h2, h3⟩
  · obtain ⟨ps, h1, h2, h3⟩ := s.w.tb p hp
    refine ⟨ps, by rw [upd_ne (ne_of h1 hH (by intro z; cases z))]; exact h1, h2, fun pos cv hc => ?_⟩
    obtain ⟨c, e1, e2⟩ := h3 pos cv hc
    exact ⟨c, e1, by rw [upd_ne (ne_of e2 hH (by intro z; unfold CodeO at z; cases z))]; exact e2⟩
  · by_cases hb : b = a
    · subst hb
      rcases e with e | e
      · rw [d1] at e; cases e
      · rw [upd_same] at e; cases e; intro ps z; cases z
    · refine s.w.nt b o (e.imp id fun e => ?_)
      rw [upd_ne hb] at e ⊢
      exact e
  · obtain ⟨b, ws, q1, q2, qz, q3, q4, q5⟩ := s.s.own i ds h
    have hb : b ≠ a := fun z => by subst z; rw [upd_same] at q4; cases q4
    rw [upd_ne hb] at q4
    exact ⟨b, ws, q1, by rw [upd_ne hb]; exact q2, qz, q3, by rw [upd_ne hb]; exact q4, q5⟩
/-! ### what is walked -/
section
variable (K : PySem.W.Frag) (Tb : List (Addr × Str)) (B : Wd → V → (List PyData → T PyData) → Prop)
structure Drives (J : It) (W0 : Wd) (ds : List PyData) : Prop where
  len : ds.length ≤ sizeLine
  go : ∀ i W F H, i < ds.length → Ext W0 W → WOk Tb W F H → J.go i H
  stop : ∀ W F H, Ext W0 W → WOk Tb W F H → J.stop ds.length H
  yld : ∀ i x H H' d W F ρ σ, ds[i]? = some d → Ext W0 W → Sim K Tb B W F ρ σ H → J.yld i H x H' → ∃ W', Ext W W' ∧ Sim K Tb B W' F ρ σ H' ∧ Dp K W'.Φ x d
def ri (den : Env → T (List PyData)) : TI := fun σ H R => ∃ W F ρ, Sim K Tb B W F ρ σ H ∧ Hold (den ρ) fun ds => ∀ W' H' J, Ext W W' → Sim K Tb B W' F ρ σ H' → Drives K Tb B J W' ds → R J H'
/-- a target: what it does to the slots vs -/
def Agree (vs : List Nat) {α : Type} (l l' : List α) : Prop := l'.length = l.length ∧ ∀ k, k ∉ vs → l'[k]? = l[k]?
def rg (vs : List Nat) (g : PyData → Env → T Env) : TG := fun v σ H Q => ∃ W F ρ d, Sim K Tb B W F ρ σ H ∧ Dp K W.Φ v d ∧ Hold (g d ρ) fun ρ' => ∀ W' σ' H', Ext W W' → Sim K Tb B W' F ρ' σ' H' → Agree vs σ σ' → Q σ' H'
def rgs (vs : List Nat) (g : List PyData → Env → T Env) : TGs := fun xs σ H Q => ∃ W F ρ ds, Sim K Tb B W F ρ σ H ∧ DpAll K W.Φ xs ds ∧ Hold (g ds ρ) fun ρ' => ∀ W' σ' H', Ext W W' → Sim K Tb B W' F ρ' σ' H' → Agree vs σ σ' → Q σ' H'
end
structure PID (Tb : List (Addr × Str)) (B : Wd → V → (List PyData → T PyData) → Prop) (X : Cx) (tg iter : Expr) (den : Env → T (List PyData)) : Prop where
  pi : PI X tg iter (ri X.K Tb B den)
structure PGD (Tb : List (Addr × Str)) (B : Wd → V → (List PyData → T PyData) → Prop) (X : Cx) (tg : Expr) (vs : List Nat) (g : PyData → Env → T Env) : Prop where
  pg : PG X tg (rg X.K Tb B vs g)
/-- what a target does is done at its slots alone -/
def AtOnly (vs : List Nat) {α : Type} (g : α → Env → T Env) : Prop := ∀ d ρ p, Hold (g d ρ) p → Hold (g d ρ) fun ρ' => p ρ' ∧ Agree vs ρ ρ'
theorem Agree.refl {vs : List Nat} {α : Type} (l : List α) : Agree vs l l := ⟨rfl, fun _ _ => rfl⟩
theorem Agree.trans {vs vs' : List Nat} {α : Type} {l l' l'' : List α} (a : Agree vs l l') (b : Agree vs' l' l'') : Agree (vs ++ vs') l l'' :=
  ⟨b.1.trans a.1, fun k hk => (b.2 k fun z => hk (List.mem_append_right _ z)).trans (a.2 k fun z => hk (List.mem_append_left _ z))⟩
theorem Agree.set {α : Type} (l : List α) (i : Nat) (x : α) : Agree [i] l (l.set i x) := ⟨by simp, fun k hk => by rw [List.getElem?_set_ne]; intro e; exact hk (by simp [e])⟩
theorem Agree.mono {vs vs' : List Nat} {α : Type} {l l' : List α} (a : Agree vs l l') (h : ∀ k ∈ vs, k ∈ vs') : Agree vs' l l' := ⟨a.1, fun k hk => a.2 k fun z => hk (h k z)⟩
section
variable {Tb : List (Addr × Str)} {B : Wd → V → (List PyData → T PyData) → Prop} {X : Cx}
theorem PI.weaken {tg e : Expr} {t t' : TI} (h : PI X tg e t) (f : ∀ σ H R, t' σ H R → t σ H R) : PI X tg e t' := ⟨fun pins s σ H R I q => h.run pins s σ H R I (f σ H R q)⟩
theorem PI.or {tg e : Expr} {t t' : TI} (h : PI X tg e t) (h' : PI X tg e t') : PI X tg e fun σ H R => t σ H R ∨ t' σ H R := ⟨fun pins s σ H R I q => q.elim (h.run pins s σ H R I) (h'.run pins s σ H R I)⟩
theorem PG.weaken {tg : Expr} {t t' : TG} (h : PG X tg t) (f : ∀ v σ H Q, t' v σ H Q → t v σ H Q) : PG X tg t' := ⟨fun pins s σ H v u Q I r q => h.run pins s σ H v u Q I r (f v σ H Q q)⟩
theorem PGs.weaken {tg : List Expr} {t t' : TGs} (h : PGs X tg t) (f : ∀ v σ H Q, t' v σ H Q → t v σ H Q) : PGs X tg t' := ⟨fun pins s σ H v u Q I r q => h.run pins s σ H v u Q I r (f v σ H Q q)⟩
/-- lists, tuples -/
def itemsD : PyData → T (List PyData)
  | .list ds => .ret ds
  | .tuple ds => .ret ds
  | _ => .err
theorem drives_list {K : PySem.W.Frag} {a : Addr} {xs : List V} {ds : List PyData} {W : Wd} {F H : Hp} (w : WOk Tb W F H) (h : SqL K W.Φ a xs) (hd : DpAll K W.Φ xs ds) : Drives K Tb B (Itl K a) W ds := by
  have hl := DpAll.len hd
  refine ⟨by rw [← hl]; exact sqL_sz w h, fun i W' F' H' hi e w' => ?_, fun W' F' H' e w' => ?_, fun i x H1 H2 d W' F' ρ σ hi e s hy => ?_⟩
  · obtain ⟨d, hd'⟩ : ∃ d, ds[i]? = some d := ⟨_, List.getElem?_eq_getElem hi⟩
    obtain ⟨v, hv, _⟩ := DpAll.get hd hd'
    exact ⟨xs, v, sqL_le w'.fz (sqL_le e.φ h), hv⟩
  · exact ⟨xs, sqL_le w'.fz (sqL_le e.φ h), by omega⟩
  · obtain ⟨rfl, hx⟩ := hy
    have q := hx xs (sqL_le s.w.fz (sqL_le e.φ h))
    obtain ⟨v, hv, hvd⟩ := DpAll.get hd hi
    rw [q] at hv; cases hv
    exact ⟨W', Ext.refl _, s, dp_le e.φ _ _ hvd⟩
theorem drives_tup {K : PySem.W.Frag} {a : Addr} {xs : List V} {ds : List PyData} {W : Wd} {F H : Hp} (w : WOk Tb W F H) (h : SqT K W.Φ a xs) (hd : DpAll K W.Φ xs ds) : Drives K Tb B (Itt K a) W ds := by
  have hl := DpAll.len hd
  refine ⟨by rw [← hl]; exact sqT_sz w h, fun i W' F' H' hi e w' => ?_, fun W' F' H' e w' => ?_, fun i x H1 H2 d W' F' ρ σ hi e s hy => ?_⟩
  · obtain ⟨d, hd'⟩ : ∃ d, ds[i]? = some d := ⟨_, List.getElem?_eq_getElem hi⟩
    obtain ⟨v, hv, _⟩ := DpAll.get hd hd'
    exact ⟨xs, v, sqT_le w'.fz (sqT_le e.φ h), hv⟩
  · exact ⟨xs, sqT_le w'.fz (sqT_le e.φ h), by omega⟩
  · obtain ⟨rfl, hx⟩ := hy
    have q := hx xs (sqT_le s.w.fz (sqT_le e.φ h))
    obtain ⟨v, hv, hvd⟩ := DpAll.get hd hi
    rw [q] at hv; cases hv
    exact ⟨W', Ext.refl _, s, dp_le e.φ _ _ hvd⟩
/-- by values: a list or a tuple is walked -/
theorem iter_seq {tg : Expr} {pins : List (Addr × Obj)} {σ : L2.St} {H : Hp} {s : Shared} {R : It → Hp → Prop} {a : Addr} {xs : List V} (I : Inv X pins σ H s) (h : (SqL X.K H a xs ∧ R (Itl X.K a) H) ∨ (SqT X.K H a xs ∧ R (Itt X.K a) H)) :
    wpAny (model X.prog X.w) X.A (pyIter (.ref a)) (PIE X pins σ tg R) X.xe s := by
  rcases h with ⟨h, q⟩ | ⟨h, q⟩
  · obtain ⟨its, rv, p, hz⟩ := I.list h
    exact wpAny_pyIter_list p.isList (pi_one (tk := s.toks) I _ (turn_list a _) ⟨_, Heap.get?_push_size _ rfl, rfl, rfl⟩ q)
  · obtain ⟨its, rv, p, hz⟩ := I.tuple h
    exact wpAny_pyIter_tuple (show s.heap.IsTuple a its.toArray from p) (pi_one (tk := s.toks) I _ (turn_tuple a _) ⟨_, Heap.get?_push_size _ rfl, rfl, rfl⟩ q)
theorem pid_seq {tg l : Expr} {f : Env → T AV} (h : PD Tb B X l f) : PID Tb B X tg l fun ρ => ((f ρ).bind toS).bind itemsD := by
  refine ⟨⟨fun pins s σ H R I hw => ?_⟩⟩
  obtain ⟨W, F, ρ, sm, q⟩ := hw
  have hh := h.run pins s σ H (fun x H1 => ∃ a, x = .ref a ∧ ((∃ xs, SqL X.K H1 a xs ∧ R (Itl X.K a) H1) ∨ (∃ xs, SqT X.K H1 a xs ∧ R (Itt X.K a) H1))) I ⟨W, F, ρ, sm, (Hold.bind (Hold.bind q)).mono fun av z => RPost.shd (z.mono fun d z W1 H1 v e1 s1 hv => by
    cases d with
    | list ds =>
      cases hv with
      | lst hs ha => exact ⟨_, rfl, .inl ⟨_, sqL_le s1.w.fz hs, z W1 H1 _ e1 s1 (drives_list s1.w hs ha)⟩⟩
    | tuple ds =>
      cases hv with
      | tup hs ha => exact ⟨_, rfl, .inr ⟨_, sqT_le s1.w.fz hs, z W1 H1 _ e1 s1 (drives_tup s1.w hs ha)⟩⟩
    | _ => exact z.elim)⟩
  refine thn hh fun v s1 ⟨x, H1, I1, r1, a, e, z⟩ => ?_
  subst e
  cases r1
  rcases z with ⟨xs, z⟩ | ⟨xs, z⟩
  · exact iter_seq (xs := xs) I1 (.inl z)
  · exact iter_seq (xs := xs) I1 (.inr z)
/-- numbers lo, lo + 1, .. -/
def upFrom (lo : Int) (n : Nat) : List PyData := (List.range n).map fun i : Nat => PyData.int (lo + (i : Int))
theorem drives_range {K : PySem.W.Frag} {lo : Int} {n : Nat} {W : Wd} (hn : n ≤ sizeLine) : Drives K Tb B (Itr lo n) W (upFrom lo n) := by
  have hl : (upFrom lo n).length = n := by simp [upFrom]
  refine ⟨by rw [hl]; exact hn, fun i W' F' H' hi e w' => by rw [hl] at hi; exact hi, fun W' F' H' e w' => by rw [hl]; exact Nat.le_refl n, fun i x H1 H2 d W' F' ρ σ hi e s hy => ?_⟩
  obtain ⟨rfl, rfl⟩ := hy
  have hi' : i < n := by rw [← hl]; exact lt_of_get hi
  have : d = PyData.int (lo + (i : Int)) := by
    unfold upFrom at hi
    rw [List.getElem?_map, List.getElem?_range hi'] at hi
    exact (Option.some.inj hi).symm
  subst this
  exact ⟨W', Ext.refl _, s, .int _⟩
def rangeD : List PyData → T (List PyData)
  | [.int j] => if j.toNat ≤ 100000 then .ret (upFrom 0 j.toNat) else .err
  | [.int i, .int j] => if (j - i).toNat ≤ 100000 ∧ i.natAbs ≤ 1000000 ∧ j.natAbs ≤ 1000000 then .ret (upFrom i (j - i).toNat) else .err
  | _ => .err
theorem pid_range1 {tg a : Expr} {f : Env → T PyData} {p pos : Pos} (hg : Gl X "range") (hm : X.mg "range" = none) (ha : PB Tb B X a f) (h1 : starEach [a] X.env = [(false, eval a X.env)] := by rfl) :
    PID Tb B X tg (.Call (.Name "range" p) [a] [] pos) fun ρ => (f ρ).bind fun d => match d with
      | .int j => if j ≤ 100000 ∧ -100000 ≤ j then .ret (upFrom 0 j.toNat) else .err
      | _ => .err := by
  refine ⟨PI.weaken (pi_range1 hg hm (pa_cons ha pa_nil h1) h1) fun σ H R ⟨W, F, ρ, s, q⟩ => ⟨W, F, ρ, s, (Hold.bind q).mono fun d z => fun W1 H1 v e1 s1 r1 => ?_⟩⟩
  have r := r1 W1 F H1 (Ext.refl _) s1
  cases d with
  | int j =>
    cases r
    obtain ⟨hz, z⟩ := hold_if z
    refine ⟨j, rfl, by omega, by omega, ?_⟩
    have hs : (100000 : Nat) ≤ sizeLine := by decide
    exact z W1 H1 _ e1 s1 (drives_range (by omega))
  | _ => exact z.elim
/-! ### targets -/
theorem pgd_name {i : Nat} {tg : Expr} (h : PG X tg (gName i)) : PGD Tb B X tg [i] fun d ρ => .ret (ρ.set i (.sh d)) :=
  ⟨PG.weaken h fun v σ H Q ⟨W, F, ρ, d, s, hd, q⟩ => q W _ H (Ext.refl _) (s.set (av := .sh d) hd) (Agree.set _ _ _)⟩
theorem only_name {i : Nat} : AtOnly [i] fun (d : PyData) ρ => .ret (ρ.set i (.sh d)) := fun d ρ p h => ⟨h, Agree.set _ _ _⟩
theorem pgsd_nil : PGs X [] (rgs X.K Tb B [] fun ds ρ => match ds with
    | [] => .ret ρ
    | _ => .err) := PGs.weaken pgs_nil fun vs σ H Q ⟨W, F, ρ, ds, s, hd, q⟩ => by
  cases ds with
  | nil =>
    cases hd
    exact ⟨rfl, q W σ H (Ext.refl _) s (Agree.refl _)⟩
  | cons _ _ => exact q.elim
def consG (g : PyData → Env → T Env) (gs : List PyData → Env → T Env) (ds : List PyData) (ρ : Env) : T Env := match ds with
  | [] => .err
  | d :: r => (g d ρ).bind fun ρ' => gs r ρ'
theorem pgsd_cons {e : Expr} {es : List Expr} {vs vs' : List Nat} {g : PyData → Env → T Env} {gs : List PyData → Env → T Env} (h1 : PGD Tb B X e vs g) (h2 : PGs X es (rgs X.K Tb B vs' gs))
    (hs : (assignEach (e :: es) X.env).map (·.2) = assign e X.env :: (assignEach es X.env).map (·.2) := by rfl) : PGs X (e :: es) (rgs X.K Tb B (vs ++ vs') (consG g gs)) := by
  refine PGs.weaken (pgs_cons h1.pg h2 hs) fun xs σ H Q ⟨W, F, ρ, ds, s, hd, q⟩ => ?_
  cases ds with
  | nil => exact q.elim
  | cons d ds =>
    cases hd with
    | cons hd1 hd2 =>
      refine ⟨_, _, rfl, W, F, ρ, d, s, hd1, (Hold.bind q).mono fun ρ1 z W1 σ1 H1 e1 s1 a1 => ?_⟩
      exact ⟨W1, F, ρ1, ds, s1, dpAll_le e1.φ _ _ hd2, z.mono fun ρ2 z W2 σ2 H2 e2 s2 a2 => z W2 σ2 H2 (e1.trans e2) s2 (a1.trans a2)⟩
theorem only_nil : AtOnly [] fun (ds : List PyData) ρ => match ds with
    | [] => T.ret ρ
    | _ => T.err := fun d ρ p h => by
  cases d with
  | nil => exact ⟨h, Agree.refl _⟩
  | cons _ _ => exact h.elim
theorem only_cons {vs vs' : List Nat} {g : PyData → Env → T Env} {gs : List PyData → Env → T Env} (h1 : AtOnly vs g) (h2 : AtOnly vs' gs) : AtOnly (vs ++ vs') (consG g gs) := fun ds ρ p h => by
  cases ds with
  | nil => exact h.elim
  | cons d r =>
    refine Hold.bind' ((h1 d ρ _ (Hold.bind h)).mono fun ρ1 ⟨z, a⟩ => ?_)
    exact (h2 r ρ1 p z).mono fun ρ2 ⟨z, b⟩ => ⟨z, a.trans b⟩
def tupG (n : Nat) (gs : List PyData → Env → T Env) (d : PyData) (ρ : Env) : T Env := match d with
  | .tuple ds => if ds.length = n then gs ds ρ else .err
  | _ => .err
theorem pgd_tup {es : List Expr} {k : Nat} {vs : List Nat} {gs : List PyData → Env → T Env} {n : Nat} {pos : Pos} (hc : X.calm = true) (h : PGs X es (rgs X.K Tb B vs gs))
    (hn : (assignEach es X.env).length = n := by rfl) (hst : (assignEach es X.env).findIdx? (·.1) = none := by rfl) : PGD Tb B X (.Tuple es k pos) vs (tupG n gs) := by
  refine ⟨PG.weaken (pg_tup hc h hn hst) fun v σ H Q ⟨W, F, ρ, d, s, hd, q⟩ => ?_⟩
  cases d with
  | tuple ds =>
    obtain ⟨hz, z⟩ := hold_if q
    cases hd with
    | tup hs ha => exact ⟨_, _, rfl, sqT_le s.w.fz hs, (DpAll.len ha).trans hz, W, F, ρ, ds, s, ha, z⟩
  | _ => exact q.elim
theorem only_tup {vs : List Nat} {gs : List PyData → Env → T Env} {n : Nat} (h : AtOnly vs gs) : AtOnly vs (tupG n gs) := fun d ρ p q => by
  cases d with
  | tuple ds =>
    obtain ⟨hz, z⟩ := hold_if q
    have r := h ds ρ p z
    show Hold (if ds.length = n then gs ds ρ else .err) _
    rw [if_pos hz]
    exact r
  | _ => exact q.elim
/-! ### list comprehensions -/
def wipeE (vs : List Nat) (ρ : Env) : Env := vs.foldr (fun v ρ => ρ.set v .no) ρ
def notOwn (ρ : Env) (v : Nat) : Bool := match ρ[v]? with
  | some (.own _) => false
  | _ => true
def lcItems (vs : List Nat) (g : PyData → Env → T Env) (t : Env → T Bool) (f : Env → T AV) (ρ : Env) : List PyData → T (List PyData)
  | [] => .ret []
  | d :: ds => (g d (wipeE vs ρ)).bind fun ρ1 => (t ρ1).bind fun b => if b = true then ((f ρ1).bind toS).bind fun y => (lcItems vs g t f ρ ds).bind fun ys => .ret (y :: ys) else lcItems vs g t f ρ ds
def lcD (vs : List Nat) (it : Env → T (List PyData)) (g : PyData → Env → T Env) (t : Env → T Bool) (f : Env → T AV) (ρ : Env) : T AV :=
  (it ρ).bind fun ds => if vs.all (notOwn ρ) = true then (lcItems vs g t f ρ ds).bind fun ys => .ret (.own ys) else .err
theorem wipe_agree (σ : L2.St) : ∀ vs : List Nat, Agree vs σ (wipe σ vs)
  | [] => Agree.refl _
  | v :: vs => by
    have a := wipe_agree σ vs
    refine ⟨by unfold wipe; simp [a.1], fun k hk => ?_⟩
    unfold wipe
    rw [List.getElem?_set_ne (by intro e; exact hk (by simp [e]))]
    exact a.2 k fun z => hk (List.mem_cons_of_mem _ z)
theorem wipeE_agree (ρ : Env) : ∀ vs : List Nat, Agree vs ρ (wipeE vs ρ)
  | [] => Agree.refl _
  | v :: vs => by
    have a := wipeE_agree ρ vs
    refine ⟨by show ((wipeE vs ρ).set v .no).length = _; simp [a.1], fun k hk => ?_⟩
    show ((wipeE vs ρ).set v .no)[k]? = _
    rw [List.getElem?_set_ne (by intro e; exact hk (by simp [e]))]
    exact a.2 k fun z => hk (List.mem_cons_of_mem _ z)
theorem wipe_none {σ : L2.St} : ∀ {vs : List Nat} {k : Nat}, k ∈ vs → k < σ.length → (wipe σ vs)[k]? = some none
  | v :: vs, k, hk, hl => by
    unfold wipe
    by_cases e : v = k
    · subst e
      rw [List.getElem?_set_self (by rw [wipe_length]; exact hl)]
    · rw [List.getElem?_set_ne e]
      exact wipe_none ((List.mem_cons.mp hk).resolve_left fun z => e z.symm) hl
theorem wipe_eq {σ σ' : L2.St} {vs : List Nat} (a : Agree vs σ σ') : wipe σ' vs = wipe σ vs := by
  apply List.ext_getElem?
  intro k
  by_cases hk : k ∈ vs
  · by_cases hl : k < σ.length
    · rw [wipe_none hk hl, wipe_none hk (by rw [a.1]; exact hl)]
    · rw [List.getElem?_eq_none (by rw [wipe_length, a.1]; omega), List.getElem?_eq_none (by rw [wipe_length]; omega)]
  · rw [(wipe_agree σ' vs).2 k hk, a.2 k hk, (wipe_agree σ vs).2 k hk]
theorem wipeE_no {ρ : Env} : ∀ {vs : List Nat} {k : Nat} {av : AV}, k ∈ vs → (wipeE vs ρ)[k]? = some av → av = .no
  | v :: vs, k, av, hk, h => by
    have h : ((wipeE vs ρ).set v .no)[k]? = some av := h
    rcases set_get h with ⟨_, z⟩ | ⟨hne, h⟩
    · exact z.symm
    · exact wipeE_no ((List.mem_cons.mp hk).resolve_left fun z => hne z.symm) h
theorem Sim.wipe {K : PySem.W.Frag} {W : Wd} {F : Hp} {ρ : Env} {σ : L2.St} {H : Hp} (s : Sim K Tb B W F ρ σ H) (vs : List Nat) : Sim K Tb B W F (wipeE vs ρ) (L2.wipe σ vs) H := by
  have aρ := wipeE_agree ρ vs
  have aσ := wipe_agree σ vs
  have key : ∀ {k : Nat} {av : AV}, (wipeE vs ρ)[k]? = some av → av ≠ .no → k ∉ vs ∧ ρ[k]? = some av := fun {k av} h hn => by
    have hk : k ∉ vs := fun z => hn (wipeE_no z h)
    exact ⟨hk, by rw [← aρ.2 k hk]; exact h⟩
  refine ⟨s.w, ⟨by rw [aρ.1, aσ.1]; exact s.s.len, fun i av h1 h2 h3 => ?_, fun i ds h => ?_, fun i j ds es a hij h1 h2 h3 => ?_⟩⟩
  · obtain ⟨hk, h⟩ := key h1 h2
    obtain ⟨v, q1, q2⟩ := s.s.sh i av h h2 h3
    exact ⟨v, by rw [aσ.2 i hk]; exact q1, q2⟩
  · obtain ⟨hk, h⟩ := key h (by intro z; cases z)
    obtain ⟨a, vs', q1, q2⟩ := s.s.own i ds h
    exact ⟨a, vs', by rw [aσ.2 i hk]; exact q1, q2⟩
  · obtain ⟨k1, h1⟩ := key h1 (by intro z; cases z)
    obtain ⟨k2, h2⟩ := key h2 (by intro z; cases z)
    rw [aσ.2 i k1] at h3
    rw [aσ.2 j k2]
    exact s.s.ne i j ds es a hij h1 h2 h3
/-- out of the block -/
theorem Sim.unwipe {K : PySem.W.Frag} {W W2 : Wd} {F F2 : Hp} {ρ ρ1 : Env} {σ σ2 : L2.St} {H H2 : Hp} {vs : List Nat} (s : Sim K Tb B W F ρ σ H) (e : Ext W W2) (hv : vs.all (notOwn ρ) = true) (aρ : Agree vs ρ ρ1) (aσ : Agree vs σ σ2) (s2 : Sim K Tb B W2 F2 ρ1 σ2 H2) : Sim K Tb B W2 F2 ρ σ H2 := by
  have hk : ∀ {k : Nat} {ds : List PyData}, ρ[k]? = some (.own ds) → k ∉ vs := fun {k ds} h hm => by
    have q := List.all_eq_true.mp hv k hm
    unfold notOwn at q
    rw [h] at q
    cases q
  refine ⟨s2.w, ⟨s.s.len, fun i av h1 h2 h3 => ?_, fun i ds h => ?_, fun i j ds es a hij h1 h2 h3 => ?_⟩⟩
  · obtain ⟨v, q1, q2⟩ := s.s.sh i av h1 h2 h3
    exact ⟨v, q1, q2.ext e⟩
  · have hi := hk h
    obtain ⟨a, vs', q1, q2⟩ := s2.s.own i ds (by rw [aρ.2 i hi]; exact h)
    exact ⟨a, vs', by rw [← aσ.2 i hi]; exact q1, q2⟩
  · exact s.s.ne i j ds es a hij h1 h2 h3
abbrev lcTest0 : Env → T Bool := fun _ => .ret true
theorem pts_d0 : PTs X [] (rt X.K Tb B lcTest0) := ⟨fun pins s σ H Q I ⟨W, F, ρ, sm, q⟩ => pts_nil.run pins s σ H Q I (q W H (Ext.refl _) sm)⟩
theorem pts_d1 {c : Expr} {t : Env → T Bool} (h : PTD Tb B X c t) : PTs X [c] (rt X.K Tb B t) := pts_one h
theorem lc_read {it : Env → T (List PyData)} {g : PyData → Env → T Env} {t : Env → T Bool} {f : Env → T AV} {vs : List Nat} (hg : AtOnly vs g) {σ : L2.St} {H : Hp} {Q : VK}
    (h : rd X.K Tb B (lcD vs it g t f) σ H Q) : tLc (ri X.K Tb B it) (rg X.K Tb B vs g) (rt X.K Tb B t) (rd X.K Tb B f) vs σ H Q := by
  obtain ⟨W, F, ρ, s, q⟩ := h
  refine ⟨W, F, ρ, s, (Hold.bind q).mono fun ds z => fun W1 H1 J e1 s1 dr => fun D hD => ?_⟩
  obtain ⟨hv, z⟩ := hold_if z
  have z := Hold.bind z
  obtain ⟨hFD, s1D⟩ := s1.new (vs := []) hD
  refine ⟨fun i m H' => m = ds.length - i ∧ i ≤ ds.length ∧ ∃ W' acc ys, Ext W1 W' ∧ Sim X.K Tb B W' (upd F D (.lst acc)) ρ σ H' ∧ DpAll X.K W'.Φ acc ys ∧ acc.length ≤ i ∧
      Hold (lcItems vs g t f ρ (ds.drop i)) fun zs => RPost X.K Tb B W F ρ σ Q (.own (ys ++ zs)), ⟨ds.length, rfl, Nat.zero_le _, W1, [], [], Ext.refl _, s1D, .nil, Nat.le_refl _, ?_⟩, ?_⟩
  · rw [List.drop_zero]
    exact z.mono fun ys z => by rw [List.nil_append]; exact z
  rintro i m H' ⟨rfl, hi, W', acc, ys, e', s', hacc, hlen, hq⟩
  have hlenD := dr.len
  by_cases hlt : i < ds.length
  · refine .inr ⟨dr.go i W' _ H' hlt e' s'.w, fun H'' => ∃ W' acc ys, Ext W1 W' ∧ Sim X.K Tb B W' (upd F D (.lst acc)) ρ σ H'' ∧ DpAll X.K W'.Φ acc ys ∧ acc.length ≤ i + 1 ∧
      Hold (lcItems vs g t f ρ (ds.drop (i + 1))) fun zs => RPost X.K Tb B W F ρ σ Q (.own (ys ++ zs)), fun H'' ⟨W'', acc'', ys'', h1, h2, h3, h4, h5⟩ => ⟨ds.length - (i + 1), by omega, rfl, hlt, W'', acc'', ys'', h1, h2, h3, h4, h5⟩, fun x H2 hy => ?_⟩
    have hd : ds[i]? = some ds[i] := List.getElem?_eq_getElem hlt
    obtain ⟨W2, e2, s2, hx⟩ := dr.yld i x H' H2 _ W' _ ρ σ hd e' s' hy
    rw [List.drop_eq_getElem_cons hlt] at hq
    have sw := s2.wipe vs
    refine ⟨W2, _, _, _, sw, hx, (hg _ _ _ (Hold.bind hq)).mono fun ρ1 ⟨z1, a1⟩ W3 σ3 H3 e3 s3 a3 => ⟨?_, ?_⟩⟩
    · rw [wipe_eq a3]
      exact wipe_eq (wipe_agree σ vs)
    · refine ⟨W3, _, ρ1, s3, (Hold.bind z1).mono fun b zb W4 H4 e4 s4 => ite_c zb (fun zb => ?_) fun zb => ?_⟩
      · -- an element
        have aρ : Agree vs ρ ρ1 := ((wipeE_agree ρ vs).trans a1).mono fun k hk => by simpa using hk
        have aσ : Agree vs σ σ3 := ((wipe_agree σ vs).trans a3).mono fun k hk => by simpa using hk
        refine ⟨W4, _, ρ1, s4, (Hold.bind (Hold.bind zb)).mono fun av zy => RPost.shd (zy.mono fun y zy W5 H5 v e5 s5 hv5 => ?_)⟩
        have s6 := s2.unwipe ((e3.trans e4).trans e5) hv aρ aσ s5
        refine ⟨acc, s6.w.fr D _ upd_same, by omega, W5, acc ++ [v], ys ++ [y], ((e'.trans e2).trans (e3.trans e4)).trans e5, ?_, DpAll.app (dpAll_le (((e2.trans e3).trans e4).trans e5).φ _ _ hacc) (DpAll.one hv5), by simp; omega, (Hold.bind zy).mono fun zs zz => ?_⟩
        · -- the list is changed
          exact s6.remake hFD
        · rw [List.append_assoc]
          exact zz
      · have aρ : Agree vs ρ ρ1 := ((wipeE_agree ρ vs).trans a1).mono fun k hk => by simpa using hk
        have aσ : Agree vs σ σ3 := ((wipe_agree σ vs).trans a3).mono fun k hk => by simpa using hk
        have s6 := s2.unwipe (e3.trans e4) hv aρ aσ s4
        exact ⟨W4, acc, ys, (e'.trans e2).trans (e3.trans e4), s6, dpAll_le ((e2.trans e3).trans e4).φ _ _ hacc, by omega, zb⟩
  · have e : i = ds.length := by omega
    subst e
    rw [List.drop_length] at hq
    refine .inl ⟨dr.stop W' _ H' e' s'.w, ?_⟩
    have hq : RPost X.K Tb B W F ρ σ Q (.own (ys ++ [])) := hq
    rw [List.append_nil] at hq
    exact hq W' H' D acc (e1.trans e') hFD s' (by omega) hacc
theorem pd_lc {elt tg iter : Expr} {ifs : List Expr} {scope : Scope} {own : List (Str × Nat)} {pos : Pos} {it : Env → T (List PyData)} {g : PyData → Env → T Env} {t : Env → T Bool} {f : Env → T AV} (hc : X.calm = true) (hN : X.N.Nodup) (hi : PID Tb B X tg iter it) (ok : BlkOk X.N X.env.scope scope own)
    (ho : AtOnly (own.map (·.2)) g) (hg : ∀ (s : Shared) (H : Hp) (C : Addr) (cl : List (Str × Addr)) (fp : List Addr), PGD Tb B (X.blk s H scope (compEnvC scope cl C X.env) fp) tg (own.map (·.2)) g)
    (ht : ∀ (s : Shared) (H : Hp) (C : Addr) (cl : List (Str × Addr)) (fp : List Addr), PTs (X.blk s H scope (compEnvC scope cl C X.env) fp) ifs (rt X.K Tb B t))
    (he : ∀ (s : Shared) (H : Hp) (C : Addr) (cl : List (Str × Addr)) (fp : List Addr), PD Tb B (X.blk s H scope (compEnvC scope cl C X.env) fp) elt f) (hs : ∀ x, foldedSetIterable iter X.env x = pure x := by intro _; rfl) :
    PD Tb B X (.ListComp elt [⟨tg, iter, ifs, 0⟩] scope pos) (lcD (own.map (·.2)) it g t f) :=
  PE.weaken (pe_lc hc hN hi.pi ok (fun s H C cl fp => (hg s H C cl fp).pg) ht he hs) fun _ _ _ h => lc_read ho h
/-! ### statements -/
theorem psd_nil : PSsD Tb B X [] fun ρ => .ret (.nx ρ) := PSs.weaken pss_nil fun D σ H ⟨W, F, ρ, s, q⟩ => q W σ H (Ext.refl _) s
def seqD (f g : Env → T Out) (ρ : Env) : T Out := (f ρ).bind fun o => match o with
  | .nx ρ' => g ρ'
  | o => .ret o
theorem seq_read {K : PySem.W.Frag} {f g : Env → T Out} {D : Ends} {σ : L2.St} {H : Hp} (h : rs K Tb B (seqD f g) D σ H) : tSeq (rs K Tb B f) (rs K Tb B g) D σ H := by
  obtain ⟨W, F, ρ, s, q⟩ := h
  refine ⟨W, F, ρ, s, (Hold.bind q).mono fun o z => ?_⟩
  cases o with
  | nx ρ' => exact fun W1 σ1 H1 e1 s1 => ⟨W1, F, ρ', s1, z.mono fun o z => OPost.ext e1 z⟩
  | rt av => cases av <;> exact z
  | bk ρ' => exact z
  | ct ρ' => exact z
theorem psd_cons {st : Stmt} {rest : List Stmt} {f g : Env → T Out} (h1 : PSD Tb B X st f) (h2 : PSsD Tb B X rest g) : PSsD Tb B X (st :: rest) (seqD f g) := PSs.weaken (pss_cons h1 h2) fun _ _ _ h => seq_read h
theorem psd_one {st : Stmt} {f : Env → T Out} (h1 : PSD Tb B X st f) : PSsD Tb B X [st] f := pss_one h1
/-- lists are given to the world ahead of a statement -/
theorem Sim.shareAll {K : PySem.W.Frag} {F : Hp} {σ : L2.St} {H : Hp} : ∀ (is : List Nat) {W : Wd} {ρ : Env}, Sim K Tb B W F ρ σ H → ∃ W', Ext W W' ∧ Sim K Tb B W' F (Dn.share is ρ) σ H
  | [], W, ρ, s => ⟨W, Ext.refl _, s⟩
  | i :: is, W, ρ, s => by
    have one : ∃ W', Ext W W' ∧ Sim K Tb B W' F (share1 ρ i) σ H := by
      unfold share1
      cases e : ρ[i]? with
      | none => exact ⟨W, Ext.refl _, s⟩
      | some av => cases av with
        | own ds =>
          obtain ⟨W', v, e1, s1, _⟩ := s.share e
          exact ⟨W', e1, s1⟩
        | _ => exact ⟨W, Ext.refl _, s⟩
    obtain ⟨W1, e1, s1⟩ := one
    obtain ⟨W2, e2, s2⟩ := Sim.shareAll is s1
    exact ⟨W2, e1.trans e2, s2⟩
theorem psd_share {st : Stmt} {f : Env → T Out} (is : List Nat) (h : PSD Tb B X st f) : PSD Tb B X st fun ρ => f (share is ρ) := PS.weaken h fun D σ H ⟨W, F, ρ, s, q⟩ => by
  obtain ⟨W', e, s'⟩ := s.shareAll is
  exact ⟨W', F, _, s', q.mono fun o z => OPost.ext e z⟩
theorem ptd_share {st : Expr} {f : Env → T Bool} (is : List Nat) (h : PTD Tb B X st f) : ∀ σ H Q, (∃ W F ρ, Sim X.K Tb B W F ρ σ H ∧ Hold (f (share is ρ)) fun b => ∀ W' H', Ext W W' → Sim X.K Tb B W' F (share is ρ) σ H' → Q b H') → rt X.K Tb B f σ H Q := fun σ H Q ⟨W, F, ρ, s, q⟩ => by
  obtain ⟨W', e, s'⟩ := s.shareAll is
  exact ⟨W', F, _, s', q.mono fun b z W2 H2 e2 s2 => z W2 H2 (e.trans e2) s2⟩
def forget (is : List Nat) (ρ : Env) : Env := is.foldl (fun ρ i => ρ.set i .no) ρ
theorem Sim.forgetAll {K : PySem.W.Frag} {F : Hp} {σ : L2.St} {H : Hp} {W : Wd} : ∀ (is : List Nat) {ρ : Env}, Sim K Tb B W F ρ σ H → Sim K Tb B W F (Dn.forget is ρ) σ H
  | [], _, s => s
  | i :: is, _, s => Sim.forgetAll is (s.forget i)
def Out.forget (is : List Nat) : Out → Out
  | .nx ρ => .nx (Dn.forget is ρ)
  | .bk ρ => .bk (Dn.forget is ρ)
  | .ct ρ => .ct (Dn.forget is ρ)
  | o => o
theorem OPost.forget {K : PySem.W.Frag} {W : Wd} {F : Hp} {D : Ends} {o : Out} (is : List Nat) (h : OPost K Tb B W F D (o.forget is)) : OPost K Tb B W F D o := by
  cases o with
  | rt av => exact h
  | _ => exact fun W' σ' H' e s => h W' σ' H' e (s.forgetAll is)
theorem psd_forget {st : Stmt} {f : Env → T Out} (is : List Nat) (h : PSD Tb B X st f) : PSD Tb B X st fun ρ => (f ρ).bind fun o => .ret (o.forget is) := PS.weaken h fun D σ H ⟨W, F, ρ, s, q⟩ =>
  ⟨W, F, ρ, s, (Hold.bind q).mono fun o z => OPost.forget is z⟩
theorem pssd_forget {st : List Stmt} {f : Env → T Out} (is : List Nat) (h : PSsD Tb B X st f) : PSsD Tb B X st fun ρ => (f ρ).bind fun o => .ret (o.forget is) := PSs.weaken h fun D σ H ⟨W, F, ρ, s, q⟩ =>
  ⟨W, F, ρ, s, (Hold.bind q).mono fun o z => OPost.forget is z⟩
def setV (i : Nat) (av : AV) (ρ : Env) : T Env := match av with
  | .no => .err
  | av => .ret (ρ.set i av)
def setD (i : Nat) (f : Env → T AV) (ρ : Env) : T Out := (f ρ).bind fun av => (setV i av ρ).bind fun ρ' => .ret (.nx ρ')
theorem Hold.setV {i : Nat} {av : AV} {ρ : Env} {p : Env → Prop} (h : Hold (Dn.setV i av ρ) p) : av ≠ .no ∧ p (ρ.set i av) := by
  cases av with
  | no => exact h.elim
  | _ => exact ⟨by intro z; (cases z), h⟩
theorem set_read {K : PySem.W.Frag} {i : Nat} {f : Env → T AV} {D : Ends} {σ : L2.St} {H : Hp} (h : rs K Tb B (setD i f) D σ H) : tAsg (rd K Tb B f) (gName i) D σ H := by
  obtain ⟨W, F, ρ, s, q⟩ := h
  refine ⟨W, F, ρ, s, (Hold.bind q).mono fun av z => rpost_of fun W' H' v F' e g s' => ?_⟩
  obtain ⟨hno, z⟩ := Hold.setV (Hold.bind z)
  exact z W' _ H' e (s'.put g hno)
theorem psd_set {st : Stmt} {i : Nat} {f : Env → T AV} (h : PS X st (tAsg (rd X.K Tb B f) (gName i))) : PSD Tb B X st (setD i f) := PS.weaken h fun _ _ _ h => set_read h
/-- x = [.. for ..] -/
theorem psd_setLc {i : Nat} {y : Str} {py : Pos} {elt tg iter : Expr} {ifs : List Expr} {scope : Scope} {own : List (Str × Nat)} {pos spos : Pos} {it : Env → T (List PyData)} {g : PyData → Env → T Env} {t : Env → T Bool} {f : Env → T AV} (hc : X.calm = true) (hN : X.N.Nodup) (hy : X.N[i]? = some y) (hyl : X.env.scope.names.lookup y = some .local)
    (hsw : swapsWith (.ListComp elt [⟨tg, iter, ifs, 0⟩] scope pos) (some (.Name y py)) spos.line X.env = pure true) (hi : PID Tb B X tg iter it) (ok : BlkOk X.N X.env.scope scope own)
    (ho : AtOnly (own.map (·.2)) g) (hg : ∀ (s : Shared) (H : Hp) (C : Addr) (cl : List (Str × Addr)) (fp : List Addr), PGD Tb B (X.blk s H scope (compEnvC scope cl C X.env) fp) tg (own.map (·.2)) g)
    (ht : ∀ (s : Shared) (H : Hp) (C : Addr) (cl : List (Str × Addr)) (fp : List Addr), PTs (X.blk s H scope (compEnvC scope cl C X.env) fp) ifs (rt X.K Tb B t))
    (he : ∀ (s : Shared) (H : Hp) (C : Addr) (cl : List (Str × Addr)) (fp : List Addr), PD Tb B (X.blk s H scope (compEnvC scope cl C X.env) fp) elt f) (hs : ∀ x, foldedSetIterable iter X.env x = pure x := by intro _; rfl) :
    PSD Tb B X (.Assign [.Name y py] (.ListComp elt [⟨tg, iter, ifs, 0⟩] scope pos) spos) (setD i (lcD (own.map (·.2)) it g t f)) :=
  PS.weaken (ps_setLc hc hN hy hyl hsw hi.pi ok (fun s H C cl fp => (hg s H C cl fp).pg) ht he hs) fun D σ H h => by
    obtain ⟨W, F, ρ, s, q⟩ := h
    refine lc_read ho ⟨W, F, ρ, s, (Hold.bind q).mono fun av z => rpost_of fun W' H' v F' e g s' => ?_⟩
    obtain ⟨hno, z⟩ := Hold.setV (Hold.bind z)
    exact z W' _ H' e (s'.put g hno)
/-- a, b = e1, e2 -/
def parD (i j : Nat) (f g : Env → T AV) (ρ : Env) : T Out := (f ρ).bind fun a => (g ρ).bind fun b => (setV j b ρ).bind fun ρ1 => (setV i a ρ1).bind fun ρ2 => .ret (.nx ρ2)
theorem psd_par {i j : Nat} {x y : Str} {a b : Expr} {f g : Env → T AV} {px py pt : Pos} {kt k2 : Nat} {pt2 pos : Pos} (hc : X.calm = true) (hN : X.N.Nodup) (hi : X.N[i]? = some x) (hj : X.N[j]? = some y) (hij : i ≠ j)
    (hx : X.env.scope.names.lookup x = some .local) (hy : X.env.scope.names.lookup y = some .local) (ha : PD Tb B X a f) (hb : PD Tb B X b g)
    (hw : swappedStores [.Tuple [.Name x px, .Name y py] kt pt] (.Tuple [a, b] k2 pt2) X.env = pure (some [x, y]))
    (hs : swapsWithSole [.Tuple [.Name x px, .Name y py] kt pt] (.Tuple [a, b] k2 pt2) pos.line X.env = pure false := by rfl)
    (h1 : starEach [a, b] X.env = (false, eval a X.env) :: starEach [b] X.env := by rfl) (h2 : starEach [b] X.env = (false, eval b X.env) :: starEach [] X.env := by rfl) :
    PSD Tb B X (.Assign [.Tuple [.Name x px, .Name y py] kt pt] (.Tuple [a, b] k2 pt2) pos) (parD i j f g) := by
  refine PS.weaken (ps_par hc hN hi hj hij hx hy (pa_cons ha (pa_cons hb pa_nil h2) h1) hw hs) fun D σ H ⟨W, F, ρ, s, q⟩ => ?_
  refine ⟨W, F, ρ, s, (Hold.bind q).mono fun av z => rpost_of fun W1 H1 v F1 e1 g1 s1 => ?_⟩
  refine ⟨W1, F1, ρ, s1, (Hold.bind z).mono fun bv z => rpost_of fun W2 H2 w F2 e2 g2 s2 => ?_⟩
  refine ⟨v, w, rfl, ?_⟩
  obtain ⟨hb0, z⟩ := Hold.setV (Hold.bind z)
  obtain ⟨ha0, z⟩ := Hold.setV (Hold.bind z)
  have s3 := (s2.put (i := j) g2 hb0).put (i := i) (g1.ext e2) ha0
  rw [List.set_comm _ _ hij]
  exact z W2 _ H2 (e1.trans e2) s3
/-- target = e: what goes to a tuple of names is data -/
def asgD (g : PyData → Env → T Env) (f : Env → T AV) (ρ : Env) : T Out := ((f ρ).bind toS).bind fun d => (g d ρ).bind fun ρ' => .ret (.nx ρ')
theorem psd_asg {st : Stmt} {vs : List Nat} {g : PyData → Env → T Env} {f : Env → T AV} (h : PS X st (tAsg (rd X.K Tb B f) (rg X.K Tb B vs g))) : PSD Tb B X st (asgD g f) := PS.weaken h fun D σ H ⟨W, F, ρ, s, q⟩ =>
  ⟨W, F, ρ, s, (Hold.bind (Hold.bind q)).mono fun av z => RPost.shd (z.mono fun d z W1 H1 v e1 s1 hv => ⟨W1, F, ρ, d, s1, hv, (Hold.bind z).mono fun ρ' z W2 σ2 H2 e2 s2 _ => z W2 σ2 H2 (e1.trans e2) s2⟩)⟩
theorem psd_ret {e : Expr} {f : Env → T AV} {pos : Pos} (h : PD Tb B X e f) : PSD Tb B X (.Return (some e) pos) fun ρ => (f ρ).bind fun av => .ret (.rt av) := PS.weaken (ps_ret h) fun D σ H ⟨W, F, ρ, s, q⟩ =>
  ⟨W, F, ρ, s, (Hold.bind q).mono fun av z => by
    cases av with
    | own ds => exact fun W' H' a vs e hn s' hz hd => z W' H' a vs e hn s'.w hz hd
    | _ => exact fun W' H' v e s' hv => z W' H' v e s'.w hv⟩
/-- a slot's own list is handed back -/
theorem psd_expr {e : Expr} {f : Env → T AV} {pos : Pos} (h : PD Tb B X e f) (hs : swapsWith e none pos.line X.env = pure false := by rfl) : PSD Tb B X (.Expr e pos) fun ρ => (f ρ).bind fun _ => .ret (.nx ρ) := PS.weaken (ps_expr h hs) fun D σ H ⟨W, F, ρ, s, q⟩ =>
  ⟨W, F, ρ, s, (Hold.bind q).mono fun av z => rpost_of fun W' H' v F' e g s' => z W' σ H' e (s'.frame g.le)⟩
theorem psd_never {st : Stmt} : PSD Tb B X st fun _ => .err := PS.weaken ps_never fun D σ H ⟨W, F, ρ, s, q⟩ => q
theorem psd_pass {pos : Pos} : PSD Tb B X (.Pass pos) fun ρ => .ret (.nx ρ) := PS.weaken ps_pass fun D σ H ⟨W, F, ρ, s, q⟩ => q W σ H (Ext.refl _) s
theorem psd_break {pos : Pos} : PSD Tb B X (.Break pos) fun ρ => .ret (.bk ρ) := PS.weaken ps_break fun D σ H ⟨W, F, ρ, s, q⟩ => q W σ H (Ext.refl _) s
theorem psd_continue {pos : Pos} : PSD Tb B X (.Continue pos) fun ρ => .ret (.ct ρ) := PS.weaken ps_continue fun D σ H ⟨W, F, ρ, s, q⟩ => q W σ H (Ext.refl _) s
def ifD (c : Env → T Bool) (f g : Env → T Out) (ρ : Env) : T Out := (c ρ).bind fun b => if b = true then f ρ else g ρ
theorem psd_if {c : Expr} {a b : List Stmt} {fc : Env → T Bool} {f g : Env → T Out} {pos : Pos} (hc : PTD Tb B X c fc) (ha : PSsD Tb B X a f) (hb : PSsD Tb B X b g) : PSD Tb B X (.If c a b pos) (ifD fc f g) := PS.weaken (ps_if hc ha hb) fun D σ H ⟨W, F, ρ, s, q⟩ =>
  ⟨W, F, ρ, s, (Hold.bind q).mono fun b z W1 H1 e1 s1 => ite_c z (fun z => ⟨W1, F, ρ, s1, z.mono fun o z => OPost.ext e1 z⟩) fun z => ⟨W1, F, ρ, s1, z.mono fun o z => OPost.ext e1 z⟩⟩
/-! ### loops -/
def forItems (g : PyData → Env → T Env) (body : Env → T Out) : List PyData → Env → T Out
  | [], ρ => .ret (.nx ρ)
  | d :: ds, ρ => (g d ρ).bind fun ρ1 => (body ρ1).bind fun o => match o with
    | .nx ρ2 => forItems g body ds ρ2
    | .ct ρ2 => forItems g body ds ρ2
    | .bk ρ2 => .ret (.nx ρ2)
    | .rt av => .ret (.rt av)
def forD (it : Env → T (List PyData)) (g : PyData → Env → T Env) (body : Env → T Out) (ρ : Env) : T Out := (it ρ).bind fun ds => forItems g body ds ρ
theorem psd_for {tg iter : Expr} {body : List Stmt} {it : Env → T (List PyData)} {vs : List Nat} {g : PyData → Env → T Env} {f : Env → T Out} {pos : Pos} (hp : PassesOwn (model X.prog X.w) X.A X.env X.xe) (hc : X.calm = true) (hi : PID Tb B X tg iter it) (hg : PGD Tb B X tg vs g) (hb : PSsD Tb B X body f)
    (hs : ∀ x, foldedSetIterable iter X.env x = pure x := by intro _; rfl) : PSD Tb B X (.For tg iter body [] pos) (forD it g f) := by
  refine PS.weaken (ps_for hp hc hi.pi hg.pg hb hs) fun D σ H ⟨W, F, ρ, s, q⟩ => ⟨W, F, ρ, s, (Hold.bind q).mono fun ds z W1 H1 J e1 s1 dr => ?_⟩
  refine ⟨fun i m σ' H' => m = ds.length - i ∧ i ≤ ds.length ∧ ∃ W' ρ', Ext W1 W' ∧ Sim X.K Tb B W' F ρ' σ' H' ∧ Hold (forItems g f (ds.drop i) ρ') (OPost X.K Tb B W' F D), ⟨ds.length, rfl, Nat.zero_le _, W1, ρ, Ext.refl _, s1, by rw [List.drop_zero]; exact z.mono fun o z => OPost.ext e1 z⟩, ?_⟩
  rintro i m σ' H' ⟨rfl, hi', W', ρ', e', s', hq⟩
  by_cases hlt : i < ds.length
  · refine .inr ⟨dr.go i W' F H' hlt e' s'.w, fun σ'' H'' => ∃ W' ρ', Ext W1 W' ∧ Sim X.K Tb B W' F ρ' σ'' H'' ∧ Hold (forItems g f (ds.drop (i + 1)) ρ') (OPost X.K Tb B W' F D), fun σ'' H'' ⟨W'', ρ'', h1, h2, h3⟩ => ⟨ds.length - (i + 1), by omega, rfl, hlt, W'', ρ'', h1, h2, h3⟩, fun x H2 hy => ?_⟩
    have hd : ds[i]? = some ds[i] := List.getElem?_eq_getElem hlt
    obtain ⟨W2, e2, s2, hx⟩ := dr.yld i x H' H2 _ W' F ρ' σ' hd e' s' hy
    rw [List.drop_eq_getElem_cons hlt] at hq
    refine ⟨W2, F, ρ', _, s2, hx, (Hold.bind hq).mono fun ρ1 z W3 σ3 H3 e3 s3 _ => ⟨W3, F, ρ1, s3, (Hold.bind z).mono fun o z => ?_⟩⟩
    have e23 := e2.trans e3
    cases o with
    | nx ρ2 => exact fun W4 σ4 H4 e4 s4 => ⟨W4, ρ2, (e'.trans e23).trans e4, s4, z.mono fun o z => OPost.ext (e23.trans e4) z⟩
    | ct ρ2 => exact fun W4 σ4 H4 e4 s4 => ⟨W4, ρ2, (e'.trans e23).trans e4, s4, z.mono fun o z => OPost.ext (e23.trans e4) z⟩
    | bk ρ2 => exact fun W4 σ4 H4 e4 s4 => z W4 σ4 H4 (e23.trans e4) s4
    | rt av =>
      have z := OPost.ext (o := .rt av) e23 z
      cases av <;> exact z
  · have e : i = ds.length := by omega
    subst e
    rw [List.drop_length] at hq
    exact .inl ⟨dr.stop W' F H' e' s'.w, hq W' σ' H' (Ext.refl _) s'⟩
/-- while: so many turns at most -/
def whileN (is : List Nat) (c : Env → T Bool) (body : Env → T Out) : Nat → Env → T Out
  | 0, _ => .err
  | n + 1, ρ => (c (share is ρ)).bind fun b => if b = true then (body (share is ρ)).bind fun o => match o with
      | .nx ρ2 => whileN is c body n ρ2
      | .ct ρ2 => whileN is c body n ρ2
      | .bk ρ2 => .ret (.nx ρ2)
      | .rt av => .ret (.rt av)
    else .ret (.nx (share is ρ))
theorem psd_while {c : Expr} {body : List Stmt} {fc : Env → T Bool} {f : Env → T Out} {pos : Pos} (is : List Nat) (n : Nat) (hp : PassesOwn (model X.prog X.w) X.A X.env X.xe) (hc : PTD Tb B X c fc) (hb : PSsD Tb B X body f) : PSD Tb B X (.While c body [] pos) (whileN is fc f n) := by
  refine PS.weaken (ps_while hp hc hb) fun D σ H ⟨W, F, ρ, s, q⟩ => ?_
  refine ⟨fun m σ' H' => ∃ W' ρ', Ext W W' ∧ Sim X.K Tb B W' F ρ' σ' H' ∧ Hold (whileN is fc f m ρ') (OPost X.K Tb B W' F D), ⟨n, W, ρ, Ext.refl _, s, q⟩, ?_⟩
  rintro m σ' H' ⟨W', ρ', e', s', hq⟩
  cases m with
  | zero => exact hq.elim
  | succ m =>
    refine ptd_share is hc _ _ _ ⟨W', F, ρ', s', (Hold.bind hq).mono fun b z W1 H1 e1 s1 => ite_c z (fun z => ?_) fun z => ?_⟩
    · refine ⟨fun σ'' H'' => ∃ W' ρ', Ext W W' ∧ Sim X.K Tb B W' F ρ' σ'' H'' ∧ Hold (whileN is fc f m ρ') (OPost X.K Tb B W' F D), fun σ'' H'' h => ⟨m, Nat.lt_succ_self m, h⟩, W1, F, _, s1, (Hold.bind z).mono fun o z => ?_⟩
      cases o with
      | nx ρ2 => exact fun W4 σ4 H4 e4 s4 => ⟨W4, ρ2, (e'.trans e1).trans e4, s4, z.mono fun o z => OPost.ext (e1.trans e4) z⟩
      | ct ρ2 => exact fun W4 σ4 H4 e4 s4 => ⟨W4, ρ2, (e'.trans e1).trans e4, s4, z.mono fun o z => OPost.ext (e1.trans e4) z⟩
      | bk ρ2 => exact fun W4 σ4 H4 e4 s4 => z W4 σ4 H4 (e1.trans e4) s4
      | rt av =>
        have z := OPost.ext (o := .rt av) e1 z
        cases av <;> exact z
    · exact z W1 σ' H1 e1 s1
/-! ### a def -/
def runD (n N : Nat) (body : Env → T Out) (as : List AV) : T AV := (body (as ++ List.replicate (N - n) .no)).bind fun o => match o with
  | .rt av => .ret av
  | .nx _ => .ret (.sh .none)
  | _ => .err
theorem VAll.len {K : PySem.W.Frag} {W : Wd} {vs : List V} {as : List AV} (h : VAll K B W vs as) : vs.length = as.length := by
  induction h with
  | nil => rfl
  | cons _ _ ih => rw [List.length_cons, List.length_cons, ih]
theorem VAll.get {K : PySem.W.Frag} {W : Wd} : ∀ {vs : List V} {as : List AV} {i : Nat} {av : AV}, VAll K B W vs as → as[i]? = some av → ∃ v, vs[i]? = some v ∧ VOk K B W v av
  | _, [], i, av, h, e => by simp at e
  | _, _ :: as, 0, av, h, e => by
    cases h with
    | cons h1 h2 =>
      simp at e
      subst e
      exact ⟨_, rfl, h1⟩
  | _, _ :: as, i + 1, av, h, e => by
    cases h with
    | cons h1 h2 => exact VAll.get (i := i) h2 (by simpa using e)
theorem sim_start {K : PySem.W.Frag} {W : Wd} {F H : Hp} {N : List Str} {vs : List V} {as : List AV} (w : WOk Tb W F H) (h : VAll K B W vs as) (hN : as.length ≤ N.length) : Sim K Tb B W F (as ++ List.replicate (N.length - as.length) .no) (L2.start N vs) H := by
  have hl := h.len
  have key : ∀ {i : Nat} {av : AV}, (as ++ List.replicate (N.length - as.length) AV.no)[i]? = some av → av ≠ .no → as[i]? = some av := fun {i av} e hn => by
    by_cases hi : i < as.length
    · rw [List.getElem?_append_left hi] at e; exact e
    · rw [List.getElem?_append_right (by omega), List.getElem?_replicate] at e
      split at e
      · exact absurd (Option.some.inj e).symm hn
      · cases e
  refine ⟨w, ⟨by simp [L2.start]; omega, fun i av h1 h2 h3 => ?_, fun i ds e => ?_, fun i j ds es a _ e _ _ => ?_⟩⟩
  · obtain ⟨v, q1, q2⟩ := VAll.get h (key h1 h2)
    refine ⟨v, ?_, q2⟩
    unfold L2.start
    rw [List.getElem?_append_left (by rw [List.length_map]; exact lt_of_get q1), List.getElem?_map, q1]
    rfl
  · have q := key e (by intro z; cases z)
    exact absurd rfl (VAll.noown h _ (List.mem_of_getElem? q) ds)
  · have q := key e (by intro z; cases z)
    exact absurd rfl (VAll.noown h _ (List.mem_of_getElem? q) ds)
theorem run_read {K : PySem.W.Frag} {N : List Str} {n : Nat} {body : Env → T Out} (hn : n ≤ N.length) {vs : List V} {H : Hp} {Q : VK} {E : XK} (h : spD K Tb B n (runD n N.length body) vs H Q E) : rs K Tb B body { nx := fun _ H' => Q .non H', rt := Q } (L2.start N vs) H := by
  obtain ⟨W, F, as, w, hv, hl, q⟩ := h
  subst hl
  refine ⟨W, F, _, sim_start w hv hn, (Hold.bind q).mono fun o z => ?_⟩
  cases o with
  | rt av => cases av <;> exact z
  | nx ρ => exact fun W' σ' H' e s => z W' H' .non e s.w .non
  | bk ρ => exact z.elim
  | ct ρ => exact z.elim
theorem sp_len {K : PySem.W.Frag} {ps : List Str} {n : Nat} {f : List AV → T AV} (hn : ps.length = n) : ∀ (vs : List V) (H : Hp) (Q : VK) (E : XK), spD K Tb B n f vs H Q E → vs.length = ps.length := fun vs H Q E ⟨_, _, as, _, hv, hl, _⟩ => by rw [hv.len, hl, hn]
/-- THE RULE of a def -/
theorem fn_d {P : Program} {w : World} {K : PySem.W.Frag} {mg : Str → Option Value} {base : Heap} {x qual : Str} {params : Arguments} {bd : List Stmt} {scope : Scope} {f : Addr} {fd : FuncData} {N ps : List Str} {k n : Nat} {body : Env → T Out}
    (F : FunD K x qual params bd scope [] [] f fd) (S : FnScope N ps scope) (hn : ps.length = n) (hN : n ≤ N.length)
    (h : ∀ (cdv : Value) (A : Around) (outer : List PySem.Env) (s : Shared) (H : Hp), Room k (A.deeper (envOfC qual scope s.heap.objs.size f cdv)) → PSsD Tb B ((cxOf CX0 P w K mg base N qual scope f cdv A outer s H E0).nox) bd body) :
    FnOk P w K mg base CX0 (k + 1) f fd ps (spD K Tb B n (runD n N.length body)) := by
  refine F.ok S (sp_len hn) fun cdv A outer s H vs Q E hr hs => ⟨_, PSs.nox (?_ : PSs _ bd (rs K Tb B body)), run_read hN hs⟩
  have q := h cdv A outer s H hr
  exact ⟨fun pins s' σ H' D I hw => q.run pins s' σ H' D ⟨⟨I.ok.mod, I.ok.kind, I.ok.glob, I.ok.blt, I.ok.above, I.ok.inj, I.ok.has, I.ok.cab, I.ok.hd, I.ok.frames, I.ok.stk, I.ok.exf, I.ok.bs, I.ok.bsz, I.ok.noex, I.ok.exfs, I.ok.funs, I.ok.frf⟩, I.os, I.bare, I.base, I.loc, I.cell, I.free, I.freeC, I.pin, I.hok, I.len⟩ hw⟩
end
end Dn
end
section
set_option Elab.async false
set_option linter.all false
set_option autoImplicit false
set_option maxRecDepth 100000
/-! Dn4: defs and their calls, where no repr is under way. -/
namespace Dn
open PySem PySem.Spec PyProof.Rows L2 LamX

/-- the def st of the text, by its name x: called with room k while no repr is under way it does d -/
structure FnG (P : Program) (w : World) (K : PySem.W.Frag) (mg : Str → Option Value) (base : Heap) (Tb : List (Addr × Str)) (B : Wd → V → (List PyData → T PyData) → Prop) (x : Str) (st : Stmt) (ps : List Str) (k : Nat) (d : List AV → T AV) : Prop where
  ex : ∃ fd : FuncData, FunD K x x (defArgs st) (defBody st) (defScope st) [] [] (He.ga K x) fd ∧ Binds K fd ps [] ∧ mg x = some (.ref (He.ga K x)) ∧
    ∀ (A : Around) (outer : List PySem.Env) (s : Shared) (H : Hp) (args : Args) (us : List Value) (vs : List V) (Q : VK), Room k A → A.guards = some [] → Env0 P w K mg base A outer s H → BindsTo s fd args (ps.zip us) → Vals vs us → spD K Tb B ps.length d vs H Q E0 →
      codeAny (model P w) A (.call (.ref (He.ga K x)) args) (CR CX0 outer P w H s Q E0) s
section
variable {P : Program} {w : World} {K : PySem.W.Frag} {mg : Str → Option Value} {base : Heap} {Tb : List (Addr × Str)} {B : Wd → V → (List PyData → T PyData) → Prop}
theorem FnG.mono {x : Str} {st : Stmt} {ps : List Str} {j k : Nat} {d : List AV → T AV} (G : FnG P w K mg base Tb B x st ps j d) (h : j ≤ k) : FnG P w K mg base Tb B x st ps k d :=
  let ⟨fd, h1, h2, h3, h4⟩ := G.ex
  ⟨fd, h1, h2, h3, fun A outer s H args us vs Q hr => h4 A outer s H args us vs Q (hr.mono h)⟩
/-- the context of a def's body -/
abbrev CxD (P : Program) (w : World) (K : PySem.W.Frag) (mg : Str → Option Value) (base : Heap) (N : List Str) (x : Str) (st : Stmt) (f : Addr) (cdv : Value) (A : Around) (outer : List PySem.Env) (s : Shared) (H : Hp) : Cx := (cxOf CX0 P w K mg base N x (defScope st) f cdv A outer s H E0).nox
/-- THE RULE of a def -/
theorem fn_g {x : Str} {st : Stmt} {N ps : List Str} {k : Nat} {body : Env → T Out} {fd : FuncData}
    (F : FunD K x x (defArgs st) (defBody st) (defScope st) [] [] (He.ga K x) fd) (S : FnScope N ps (defScope st)) (hm : mg x = some (.ref (He.ga K x))) (hN : ps.length ≤ N.length)
    (hb : ∀ (kV doc pm : Value) (an : Option Addr) (cdv ct : Value) (us : List Value), us.length = ps.length → bindArgs (PySem.W.fnOf x x (defArgs st) (defBody st) (defScope st) .none kV doc pm an cdv ct) ⟨us, []⟩ = pure (ps.zip us))
    (h : ∀ (cdv : Value) (A : Around) (outer : List PySem.Env) (s : Shared) (H : Hp), Room k (CxD P w K mg base N x st (He.ga K x) cdv A outer s H).A → (CxD P w K mg base N x st (He.ga K x) cdv A outer s H).A.guards = some [] → PSsD Tb B (CxD P w K mg base N x st (He.ga K x) cdv A outer s H) (defBody st) body) :
    FnG P w K mg base Tb B x st ps (k + 1) (runD ps.length N.length body) := by
  refine ⟨fd, F, F.bindsN hb, hm, fun A outer s H args us vs Q hr hg e0 hbt r hs => ?_⟩
  obtain ⟨oc, od, dV, kV, doc, pm, an, cdv, ct, osl, rfl, lk, hcd, _, _⟩ := F.ex
  refine run_ofS lk hcd S hr e0 hbt r (sp_len rfl vs H Q E0 hs) fun hr' => ⟨_, PSs.nox (h cdv A outer s H hr' hg), run_read hN hs⟩
theorem room200 {k : Nat} {A : Around} (hr : Room k A) : A.units + 200 < cLine := by
  have := hr.un
  omega
end
section
variable {Tb : List (Addr × Str)} {B : Wd → V → (List PyData → T PyData) → Prop} {X : Cx}
/-- behind a run -/
theorem run_back {pins : List (Addr × Obj)} {σ : L2.St} {H : Hp} {s : Shared} {Q : VK} {f : Value} {us : List Value} {kw : List (Str × Value)} {a : Addr} (I : Inv X pins σ H s) (h : codeAny (model X.prog X.w) X.A (.call (.ref a) ⟨us, kw⟩) (CR CX0 X.stack X.prog X.w H s Q E0) s) :
    wpAny (model X.prog X.w) X.A (call (.ref a) us kw) (EP X pins σ Q) X.xe s := by
  refine wpAny_call (codeAny_mono h fun r s' hq => ?_)
  cases r with
  | error e => exact False.elim hq
  | ok fl => cases fl with
    | ret u => exact I.after hq
    | _ => exact False.elim hq
theorem pg_call {k n : Nat} {x : Str} {st : Stmt} {ps : List Str} {d : List AV → T AV} {p pos : Pos} {e : Expr} {es : List Expr} {g : Env → T (List AV)}
    (G : FnG X.prog X.w X.K X.mg X.base Tb B x st ps k d) (hr : Room k X.A) (hgd : X.A.guards = some []) (hg : Gl X x) (ha : PAD Tb B X (e :: es) g)
    (hdb : (x == ("__debug__" : Str)) = false := by decide) (he : starEach (e :: es) X.env = (false, eval e X.env) :: starEach es X.env := by rfl) (hpl : (backTo pos (starEach es X.env)).any (·.1) = false := by rfl) (hnn : ps.length = n := by rfl) :
    PD Tb B X (.Call (.Name x p) (e :: es) [] pos) fun ρ => (g ρ).bind (calling n d) := by
  subst hnn
  obtain ⟨fd, F, hb, hm, run⟩ := G.ex
  have h : PE X (.Call (.Name x p) (e :: es) [] pos) (tCall (spD X.K Tb B ps.length d) [] E0 (ra X.K Tb B g)) := by
    refine ⟨fun pins s σ H Q I h => ?_⟩
    refine wpAny_Call_Name_kw (ld_glob I hg hm ?_ hdb)
    refine PySem.W.callWith_K (h₀ := X.base) I.ok.mod.kin F.kp (thn (ha.run pos pins s σ H _ I h) fun us s1 ⟨vs, H1, I1, r, q⟩ => ⟨I1.kIn, ?_⟩) he hpl
    have q : spD X.K Tb B ps.length d (vs ++ []) H1 Q E0 := q
    rw [List.append_nil] at q
    have hl : (us ++ []).length = ps.length := by rw [List.append_nil, ← r.length]; exact sp_len rfl vs H1 Q E0 q
    have bt := hb s1 us I1.kIn hl
    rw [List.append_nil] at bt
    exact run_back (f := .none) I1 (run X.A X.stack s1 H1 ⟨us, []⟩ us vs Q hr hgd I1.env0 bt r q)
  refine PE.weaken h fun σ H Q ⟨W, F', ρ, s, q⟩ => ⟨W, F', ρ, s, (Hold.bind q).mono fun as z => fun W1 H1 vs e1 s1 hv => ?_⟩
  obtain ⟨hn, z⟩ := hold_if z
  rw [List.append_nil]
  exact sp_use e1 s1 hv hn z
/-- arguments put in order by places -/
def pick {α : Type} (pm : List Nat) (l : List α) : List α := pm.filterMap fun i => l[i]?
theorem pick_vals : ∀ {pm : List Nat} {vs : List V} {us : List Value}, Vals vs us → Vals (pick pm vs) (pick pm us)
  | [], _, _, _ => .nil
  | i :: pm, vs, us, r => by
    unfold pick
    rw [List.filterMap_cons, List.filterMap_cons]
    cases e : vs[i]? with
    | none =>
      rw [r.none_of e]
      exact pick_vals r
    | some v =>
      obtain ⟨u, hu, ru⟩ := r.get e
      rw [hu]
      exact .cons ru (pick_vals r)
theorem VAll.none_of {K : PySem.W.Frag} {W : Wd} {vs : List V} {as : List AV} (h : VAll K B W vs as) {i : Nat} (e : as[i]? = none) : vs[i]? = none := by
  rw [List.getElem?_eq_none_iff] at e ⊢
  rw [h.len]; exact e
theorem pick_all {K : PySem.W.Frag} {W : Wd} : ∀ {pm : List Nat} {vs : List V} {as : List AV}, VAll K B W vs as → VAll K B W (pick pm vs) (pick pm as)
  | [], _, _, _ => .nil
  | i :: pm, vs, as, r => by
    unfold pick
    rw [List.filterMap_cons, List.filterMap_cons]
    cases e : as[i]? with
    | none =>
      rw [r.none_of e]
      exact pick_all r
    | some a =>
      obtain ⟨v, hv, hva⟩ := VAll.get r e
      rw [hv]
      exact .cons hva (pick_all r)
theorem VAll.extAll {K : PySem.W.Frag} {W W' : Wd} {vs : List V} {as : List AV} (h : VAll K B W vs as) (e : Ext W W') : VAll K B W' vs as := VAll.ext e h
theorem VAll.append {K : PySem.W.Frag} {W : Wd} {vs vs' : List V} {as as' : List AV} (h : VAll K B W vs as) (h' : VAll K B W vs' as') : VAll K B W (vs ++ vs') (as ++ as') := by
  induction h with
  | nil => exact h'
  | cons h1 _ ih => exact .cons h1 ih
abbrev PKD (Tb : List (Addr × Str)) (B : Wd → V → (List PyData → T PyData) → Prop) (X : Cx) (kws : List Keyword) (den : Env → T (List AV)) : Prop := PK X kws (ra X.K Tb B den)
theorem pkd_nil : PKD Tb B X [] fun _ => .ret [] := ⟨fun pos pins s σ H Q I ⟨W, F, ρ, sm, q⟩ => pk_nil.run pos pins s σ H Q I (q W H [] (Ext.refl W) sm .nil)⟩
theorem cons_read {K : PySem.W.Frag} {f : Env → T AV} {g : Env → T (List AV)} {σ : L2.St} {H : Hp} {Q : List V → Hp → Prop} (h : ra K Tb B (fun ρ => (f ρ).bind fun a => (g ρ).bind fun as => .ret (frz a :: as)) σ H Q) : tCons (rd K Tb B f) (ra K Tb B g) σ H Q := by
  obtain ⟨W, F, ρ, s, q⟩ := h
  refine ⟨W, F, ρ, s, (Hold.bind q).mono fun av z => RPost.frz ?_⟩
  have key : ∀ aw : AV, aw = frz av → RPost K Tb B W F ρ σ (fun x H1 => ra K Tb B g σ H1 fun xs H2 => Q (x :: xs) H2) aw := by
    intro aw haw
    have nown : ∀ ds, aw ≠ .own ds := fun ds e => by cases av <;> simp [frz] at haw <;> subst haw <;> cases e
    have main : ∀ W' H' v, Ext W W' → Sim K Tb B W' F ρ σ H' → VOk K B W' v aw → ra K Tb B g σ H' fun xs H2 => Q (v :: xs) H2 := fun W1 H1 v e1 s1 hv =>
      ⟨W1, F, ρ, s1, (Hold.bind z).mono fun as z2 => fun W2 H2 vs e2 s2 hvs => z2 W2 H2 (v :: vs) (e1.trans e2) s2 (haw ▸ .cons (hv.ext e2) hvs)⟩
    cases aw with
    | own ds => exact absurd rfl (nown ds)
    | _ => exact main
  exact key _ rfl
theorem pkd_cons {kpos : Pos} {e : Expr} {kws : List Keyword} {nm : Option Str} {f : Env → T AV} {g : Env → T (List AV)} (he : PD Tb B X e f) (hk : PKD Tb B X kws g) : PKD Tb B X (⟨nm, e, kpos⟩ :: kws) fun ρ => (f ρ).bind fun a => (g ρ).bind fun as => .ret (frz a :: as) :=
  ⟨fun pos pins s σ H Q I h => (pk_cons he hk).run pos pins s σ H Q I (cons_read h)⟩
/-- what stands behind: the arguments in order -/
def readK (K : PySem.W.Frag) (d : List AV → T AV) (n : Nat) (pm : List Nat) (g gk : Env → T (List AV)) (σ : L2.St) (H : Hp) (Q : VK) : Prop :=
  ra K Tb B g σ H fun vs H1 => ra K Tb B gk σ H1 fun zs H2 => spD K Tb B n d (pick pm (vs ++ zs)) H2 Q E0
theorem readK_of {K : PySem.W.Frag} {d : List AV → T AV} {n : Nat} {pm : List Nat} {g gk : Env → T (List AV)} {σ : L2.St} {H : Hp} {Q : VK} (h : rd K Tb B (fun ρ => (g ρ).bind fun as => (gk ρ).bind fun zs => calling n d (pick pm (as ++ zs))) σ H Q) : readK (Tb := Tb) (B := B) K d n pm g gk σ H Q := by
  obtain ⟨W, F, ρ, s, q⟩ := h
  refine ⟨W, F, ρ, s, (Hold.bind q).mono fun as z => fun W1 H1 vs e1 s1 hv => ⟨W1, F, ρ, s1, (Hold.bind z).mono fun zs z => fun W2 H2 ws e2 s2 hw => ?_⟩⟩
  obtain ⟨hn, z⟩ := hold_if z
  have hall : VAll K B W2 (vs ++ ws) (as ++ zs) := VAll.append (hv.extAll e2) hw
  refine ⟨W2, pack ρ σ F H2, pick pm (as ++ zs), s2.packed, pick_all hall, hn, z.mono fun av z => ?_⟩
  cases av with
  | own ds =>
    intro W3 H3 a xs e3 hpn w hz hd
    obtain ⟨hF, s3⟩ := s2.backOwn e3 hpn w
    exact z W3 H3 a xs ((e1.trans e2).trans e3) hF s3 hz hd
  | _ => exact fun W3 H3 v e3 w hv => z W3 H3 v ((e1.trans e2).trans e3) (s2.back e3 w) hv
/-- f(e, .., k = v, ..): pm puts the written ones, then those by name in the parameters' order -/
theorem pg_callK {k n : Nat} {x : Str} {st : Stmt} {ps ks : List Str} {d : List AV → T AV} {p pos : Pos} {e : Expr} {es : List Expr} {kws : List Keyword} {g gk : Env → T (List AV)} (pm : List Nat)
    (G : FnG X.prog X.w X.K X.mg X.base Tb B x st ps k d) (hr : Room k X.A) (hgd : X.A.guards = some []) (hg : Gl X x)
    (hb : ∀ (kV doc pv : Value) (an : Option Addr) (cdv ct : Value) (us ws : List Value), (pick pm (us ++ ws)).length = ps.length → bindArgs (PySem.W.fnOf x x (defArgs st) (defBody st) (defScope st) .none kV doc pv an cdv ct) ⟨us, ks.zip ws⟩ = pure (ps.zip (pick pm (us ++ ws))))
    (ha : PAD Tb B X (e :: es) g) (hk : PKD Tb B X kws gk) (hall : (backToKw pos (keywordEach kws X.env)).all (·.1.isSome) = true := by rfl) (hks : (backToKw pos (keywordEach kws X.env)).filterMap (·.1) = ks := by rfl)
    (hdb : (x == ("__debug__" : Str)) = false := by decide) (he : starEach (e :: es) X.env = (false, eval e X.env) :: starEach es X.env := by rfl)
    (hpl : ((backTo pos (starEach (e :: es) X.env)).any (·.1) || (backToKw pos (keywordEach kws X.env)).any (·.1.isNone)) = false := by rfl) (hnn : ps.length = n := by rfl) :
    PD Tb B X (.Call (.Name x p) (e :: es) kws pos) fun ρ => (g ρ).bind fun as => (gk ρ).bind fun zs => calling n d (pick pm (as ++ zs)) := by
  subst hnn
  obtain ⟨fd, F, _, hm, run⟩ := G.ex
  obtain ⟨oc, od, dV, kV, doc, pv, an, cdv, ct, osl, rfl, lk, hcd, hD, _⟩ := id F.ex
  obtain rfl : dV = Value.none := by
    rcases hD with ⟨_, h⟩ | ⟨h, _⟩
    · exact h
    · exact absurd rfl h
  refine ⟨fun pins s σ H Q I h => ?_⟩
  refine wpAny_Call_Name_kw (ld_glob I hg hm ?_ hdb)
  refine PySem.W.callWith_KW (h₀ := X.base) I.ok.mod.kin F.kp hall (thn (ha.run pos pins s σ H _ I (readK_of h)) fun us s1 ⟨vs, H1, I1, r, q⟩ => ?_) hpl he
  refine thn (hk.run pos pins s1 σ H1 _ I1 q) fun ws s2 ⟨zs, H2, I2, rz, q2⟩ => ⟨I2.kIn, ?_⟩
  rw [hks]
  have rr : Vals (pick pm (vs ++ zs)) (pick pm (us ++ ws)) := pick_vals (r.append rz)
  have hl : (pick pm (us ++ ws)).length = ps.length := by rw [← rr.length]; exact sp_len rfl _ H2 Q E0 q2
  exact run_back (f := .none) I2 (run X.A X.stack s2 H2 ⟨us, ks.zip ws⟩ _ _ Q hr hgd I2.env0 (.of_eq (hb kV doc pv an cdv ct us ws hl)) rr q2)
theorem pg_callK0 {k n : Nat} {x : Str} {st : Stmt} {ps ks : List Str} {d : List AV → T AV} {p pos : Pos} {kws : List Keyword} {gk : Env → T (List AV)} (pm : List Nat)
    (G : FnG X.prog X.w X.K X.mg X.base Tb B x st ps k d) (hr : Room k X.A) (hgd : X.A.guards = some []) (hg : Gl X x)
    (hb : ∀ (kV doc pv : Value) (an : Option Addr) (cdv ct : Value) (us ws : List Value), (pick pm (us ++ ws)).length = ps.length → us = [] → bindArgs (PySem.W.fnOf x x (defArgs st) (defBody st) (defScope st) .none kV doc pv an cdv ct) ⟨us, ks.zip ws⟩ = pure (ps.zip (pick pm (us ++ ws))))
    (hk : PKD Tb B X kws gk) (hall : (backToKw pos (keywordEach kws X.env)).all (·.1.isSome) = true := by rfl) (hks : (backToKw pos (keywordEach kws X.env)).filterMap (·.1) = ks := by rfl)
    (hdb : (x == ("__debug__" : Str)) = false := by decide)
    (hpl : ((backTo pos (starEach [] X.env)).any (·.1) || (backToKw pos (keywordEach kws X.env)).any (·.1.isNone)) = false := by rfl) (hnn : ps.length = n := by rfl) :
    PD Tb B X (.Call (.Name x p) [] kws pos) fun ρ => (gk ρ).bind fun zs => calling n d (pick pm zs) := by
  subst hnn
  obtain ⟨fd, F, _, hm, run⟩ := G.ex
  obtain ⟨oc, od, dV, kV, doc, pv, an, cdv, ct, osl, rfl, lk, hcd, hD, _⟩ := id F.ex
  obtain rfl : dV = Value.none := by
    rcases hD with ⟨_, h⟩ | ⟨h, _⟩
    · exact h
    · exact absurd rfl h
  refine ⟨fun pins s σ H Q I ⟨W, F', ρ, sm, q⟩ => ?_⟩
  refine wpAny_Call_Name_kw (ld_glob I hg hm ?_ hdb)
  refine PySem.W.callWith_KW0 (h₀ := X.base) I.ok.mod.kin F.kp hall ?_ hpl
  have h1 : ra X.K Tb B gk σ H fun zs H2 => spD X.K Tb B ps.length d (pick pm zs) H2 Q E0 := ⟨W, F', ρ, sm, (Hold.bind q).mono fun zs z => fun W2 H2 ws e2 s2 hw => by
    obtain ⟨hn, z⟩ := hold_if z
    exact sp_use e2 s2 (pick_all hw) hn z⟩
  refine thn (hk.run pos pins s σ H _ I h1) fun ws s2 ⟨zs, H2, I2, rz, q2⟩ => ⟨I2.kIn, ?_⟩
  rw [hks]
  have rr : Vals (pick pm zs) (pick pm ws) := pick_vals rz
  have hl : (pick pm ws).length = ps.length := by rw [← rr.length]; exact sp_len rfl _ H2 Q E0 q2
  have b := hb kV doc pv an cdv ct [] ws (by rw [List.nil_append]; exact hl) rfl
  rw [List.nil_append] at b
  exact run_back (f := .none) I2 (run X.A X.stack s2 H2 ⟨[], ks.zip ws⟩ _ _ Q hr hgd I2.env0 (.of_eq b) rr q2)
end
end Dn
end
section
set_option Elab.async false
set_option linter.all false
set_option autoImplicit false
set_option maxRecDepth 100000
/-! Dn5: operators and built-ins by what they do to data. -/
namespace Dn
open PySem PySem.Spec PyProof.Rows L2 LamX

section
variable {Tb : List (Addr × Str)} {B : Wd → V → (List PyData → T PyData) → Prop} {X : Cx}
theorem OpOk.or {K : PySem.W.Frag} {r r' : R2} {f : PyData → PyData → T AV} (p : PyData → PyData → Bool)
    (h : ∀ W F ρ σ H x y d e Q, p d e = true → Sim K Tb B W F ρ σ H → Rb K W H x d → Rb K W H y e → Hold (f d e) (RPost K Tb B W F ρ σ Q) → r x y H Q)
    (h' : ∀ W F ρ σ H x y d e Q, p d e = false → Sim K Tb B W F ρ σ H → Rb K W H x d → Rb K W H y e → Hold (f d e) (RPost K Tb B W F ρ σ Q) → r' x y H Q) : OpOk Tb B K (fun x y H Q => r x y H Q ∨ r' x y H Q) f :=
  fun W F ρ σ H x y d e Q s a b q => by
    cases c : p d e with
    | true => exact .inl (h W F ρ σ H x y d e Q c s a b q)
    | false => exact .inr (h' W F ρ σ H x y d e Q c s a b q)
def isInt2 : PyData → PyData → Bool
  | .int _, .int _ => true
  | _, _ => false
theorem Rb.int {K : PySem.W.Frag} {W : Wd} {H : Hp} {x : V} {i : Int} (h : Rb K W H x (.int i)) : x = .int i := by cases h; rfl
theorem Rb.bool {K : PySem.W.Frag} {W : Wd} {H : Hp} {x : V} {i : Bool} (h : Rb K W H x (.bool i)) : x = .bl i := by cases h; rfl
theorem Rb.list {K : PySem.W.Frag} {W : Wd} {H : Hp} {x : V} {ds : List PyData} (h : Rb K W H x (.list ds)) : ∃ a vs, x = .ref a ∧ SqL K H a vs ∧ vs.length ≤ sizeLine ∧ DpAll K W.Φ vs ds := h
theorem Rb.tup {K : PySem.W.Frag} {W : Wd} {F H : Hp} {x : V} {ds : List PyData} (w : WOk Tb W F H) (h : Rb K W H x (.tuple ds)) : ∃ a vs, x = .ref a ∧ SqT K W.Φ a vs ∧ SqT K H a vs ∧ vs.length ≤ sizeLine ∧ DpAll K W.Φ vs ds := by
  cases h with
  | tup hs ha => exact ⟨_, _, rfl, hs, sqT_le w.fz hs, sqT_sz w hs, ha⟩
/-- a new tuple of known things -/
theorem Sim.mkT {K : PySem.W.Frag} {W : Wd} {F H : Hp} {ρ : Env} {σ : L2.St} {Q : VK} {vs : List V} {ds : List PyData} (s : Sim K Tb B W F ρ σ H) (hd : DpAll K W.Φ vs ds) (hz : vs.length ≤ sizeLine) (q : RPost K Tb B W F ρ σ Q (.sh (.tuple ds))) : ∀ p, H p = none → Q (.ref p) (upd H p (.tup vs)) := fun p hp => by
  obtain ⟨W2, e2, s2, h2⟩ := s.made (o := .tup vs) hp (by intro ps z; cases z) (by rintro xs (e | e | ⟨_, e⟩ | ⟨_, e⟩) <;> cases e; exact hz)
  exact q W2 _ (.ref p) e2 s2 (.tup (.inl (.inl h2)) (dpAll_le e2.φ _ _ hd))
theorem Sim.mkL {K : PySem.W.Frag} {W : Wd} {F H : Hp} {ρ : Env} {σ : L2.St} {Q : VK} {vs : List V} {ds : List PyData} (s : Sim K Tb B W F ρ σ H) (hd : DpAll K W.Φ vs ds) (hz : vs.length ≤ sizeLine) (q : RPost K Tb B W F ρ σ Q (.own ds)) : ∀ p, H p = none → Q (.ref p) (upd H p (.lst vs)) := fun p hp => by
  obtain ⟨hF, s2⟩ := s.new (vs := vs) hp
  exact q W _ p vs (Ext.refl _) hF s2 hz hd
theorem DpAll.nil_iff {K : PySem.W.Frag} {H : Hp} {vs : List V} {ds : List PyData} (h : DpAll K H vs ds) : vs = [] ↔ ds = [] := by
  cases h with
  | nil => simp
  | cons _ _ => simp
/-! ### + -/
def addD : PyData → PyData → T AV
  | .int i, .int j => .ret (.sh (.int (i + j)))
  | .tuple xs, .tuple ys => if xs.length + ys.length ≤ 1000000 then .ret (.sh (.tuple (xs ++ ys))) else .err
  | .list xs, .list ys => if xs.length + ys.length ≤ 1000000 then .ret (.own (xs ++ ys)) else .err
  | _, _ => .err
theorem line1M {n : Nat} (h : n ≤ 1000000) : n ≤ sizeLine := Nat.le_trans h (by decide)
def rCatL (K : PySem.W.Frag) : R2 := fun x y H Q => ∃ l b xs zs, x = .ref l ∧ y = .ref b ∧ SqL K H l xs ∧ SqL K H b zs ∧ xs.length + zs.length ≤ sizeLine ∧ ∀ p, H p = none → Q (.ref p) (upd H p (.lst (xs ++ zs)))
theorem Inv.fresh' {pins : List (Addr × Obj)} {σ : L2.St} {H : Hp} {s : Shared} (I : Inv X pins σ H s) : H s.heap.objs.size = none := I.hok.fresh (Nat.le_refl _)
/-- a new list laid -/
theorem Inv.newL {pins : List (Addr × Obj)} {σ : L2.St} {H : Hp} {s : Shared} {vs : List V} {its : List Value} (I : Inv X pins σ H s) (r : Vals vs its) (hz : vs.length ≤ sizeLine) :
    Inv X pins σ (upd H s.heap.objs.size (.lst vs)) { s with heap := s.heap.push { cls := .type "list", data := .seq its.toArray } } :=
  Inv.laid (t' := s.toks) I (fun b o e => Heap.get?_push_of_some _ e) (Nat.le_refl _) ⟨hz, its, 0, r, Heap.get?_push_size _ rfl⟩
theorem op_catL : OpR X (binaryOp .Add) (rCatL X.K) := by
  intro pins s σ H x y v u Q I rx ry h
  obtain ⟨l, b, xs, zs, rfl, rfl, hl, hb, hz, q⟩ := h
  cases rx
  cases ry
  obtain ⟨its, r, ⟨⟨c1, dd1, dt1, sl1⟩, n1, e1, hc1, hd1, ht1⟩, _⟩ := I.list hl
  obtain ⟨its2, r2, ⟨⟨c2, dd2, dt2, sl2⟩, n2, e2, hc2, hd2, ht2⟩, _⟩ := I.list hb
  have l1 := r.length
  have l2 := r2.length
  simp only at hc1 hd1 ht1 hc2 hd2 ht2
  subst hc1 hd1 ht1 hc2 hd2 ht2
  have eA : its.toArray ++ its2.toArray = (its ++ its2).toArray := by simp
  have hsz : its.toArray.size + its2.toArray.size ≤ sizeLine := by rw [List.size_toArray, List.size_toArray]; omega
  refine concat_meets ⟨_, e1, rfl⟩ ⟨_, e2, rfl⟩ noFill_list_add seq_list_add PySem.F.slot_list_add PySem.F.entry_list_add (PySem.F.args_list_add_2 _ _)
    (list_addW l b its.toArray its2.toArray n1 n2 _ _ sl1 sl2 hsz) ⟨e1, e2, ?_⟩
  rw [eA]
  exact ⟨.ref _, _, Inv.newL I (r.append r2) (by rw [List.length_append]; exact hz), rfl, q _ (Inv.fresh' I)⟩
def rAddAll (K : PySem.W.Frag) : R2 := fun x y H Q => rI0 (fun i j => .int (i + j)) x y H Q ∨ (rCatA K x y H Q ∨ rCatL K x y H Q)
theorem op_addAll : OpR X (binaryOp .Add) (rAddAll X.K) := OpR.or op_add (OpR.or op_catA op_catL)
theorem ok_add : OpOk Tb B X.K (rAddAll X.K) addD := fun W F ρ σ H x y d e Q s a b q => by
  cases d with
  | int i => cases e with
    | int j => exact .inl ⟨i, j, a.int, b.int, q W H _ (Ext.refl _) s (.int _)⟩
    | _ => exact q.elim
  | tuple xs => cases e with
    | tuple ys =>
      obtain ⟨hz, q⟩ := hold_if q
      obtain ⟨p, vs, rfl, _, h1, _, h2⟩ := Rb.tup s.w a
      obtain ⟨p', ws, rfl, _, h3, _, h4⟩ := Rb.tup s.w b
      have l1 := DpAll.len h2
      have l2 := DpAll.len h4
      refine .inr (.inl ⟨p, p', vs, ws, rfl, rfl, h1, h3, line1M (by omega), fun e => ?_, fun _ e => ?_, fun _ _ => s.mkT (DpAll.app h2 h4) (by rw [List.length_append]; exact line1M (by omega)) q⟩)
      · rw [(DpAll.nil_iff h2).mp e, List.nil_append] at q
        exact q W H _ (Ext.refl _) s (by cases b with | tup hs ha => exact .tup hs ha)
      · rw [(DpAll.nil_iff h4).mp e, List.append_nil] at q
        exact q W H _ (Ext.refl _) s (by cases a with | tup hs ha => exact .tup hs ha)
    | _ => exact q.elim
  | list xs => cases e with
    | list ys =>
      obtain ⟨hz, q⟩ := hold_if q
      obtain ⟨p, vs, rfl, h1, _, h2⟩ := a.list
      obtain ⟨p', ws, rfl, h3, _, h4⟩ := b.list
      have l1 := DpAll.len h2
      have l2 := DpAll.len h4
      exact .inr (.inr ⟨p, p', vs, ws, rfl, rfl, h1, h3, line1M (by omega), s.mkL (DpAll.app h2 h4) (by rw [List.length_append]; exact line1M (by omega)) q⟩)
    | _ => exact q.elim
  | _ => exact q.elim
def intD (f : Int → Int → T AV) : PyData → PyData → T AV
  | .int i, .int j => f i j
  | _, _ => .err
theorem ok_int {K : PySem.W.Frag} {r : R2} {f : Int → Int → T AV} (h : ∀ W F ρ σ H i j Q, Sim K Tb B W F ρ σ H → Hold (f i j) (RPost K Tb B W F ρ σ Q) → r (.int i) (.int j) H Q) : OpOk Tb B K r (intD f) := fun W F ρ σ H x y d e Q s a b q => by
  cases d with
  | int i => cases e with
    | int j =>
      rw [a.int, b.int]
      exact h W F ρ σ H i j Q s q
    | _ => exact q.elim
  | _ => exact q.elim
abbrev subD : PyData → PyData → T AV := intD fun i j => .ret (.sh (.int (i - j)))
theorem ok_sub : OpOk Tb B X.K (rI0 fun i j => .int (i - j)) subD := ok_int fun W F ρ σ H i j Q s q => ⟨i, j, rfl, rfl, q W H _ (Ext.refl _) s (.int _)⟩
abbrev mulD : PyData → PyData → T AV := intD fun i j => if (-(2 ^ 64) < i ∧ i < 2 ^ 64) ∨ (-(2 ^ 64) < j ∧ j < 2 ^ 64) then .ret (.sh (.int (i * j))) else .err
theorem ok_mul : OpOk Tb B X.K (rI CMul fun i j => .int (i * j)) mulD := ok_int fun W F ρ σ H i j Q s q => by
  obtain ⟨hz, q⟩ := hold_if q
  exact ⟨i, j, rfl, rfl, hz, q W H _ (Ext.refl _) s (.int _)⟩
abbrev modD : PyData → PyData → T AV := intD fun i j => if j ≠ 0 then .ret (.sh (.int (i.fmod j))) else .err
theorem ok_mod : OpOk Tb B X.K (rI (fun _ j => j ≠ 0) fun i j => .int (i.fmod j)) modD := ok_int fun W F ρ σ H i j Q s q => by
  obtain ⟨hz, q⟩ := hold_if q
  exact ⟨i, j, rfl, rfl, hz, q W H _ (Ext.refl _) s (.int _)⟩
abbrev fdivD : PyData → PyData → T AV := intD fun i j => if j ≠ 0 ∧ j.natAbs < 1073741824 then .ret (.sh (.int (i.fdiv j))) else .err
theorem ok_fdiv : OpOk Tb B X.K (rI CDivN fun i j => .int (i.fdiv j)) fdivD := ok_int fun W F ρ σ H i j Q s q => by
  obtain ⟨hz, q⟩ := hold_if q
  exact ⟨i, j, rfl, rfl, hz, q W H _ (Ext.refl _) s (.int _)⟩
/-! ### comparisons -/
def okD (d : PyData) : Bool := SeqAt.shaped d
def eqD (x y : PyData) : T AV := if (okD x && okD y) = true then .ret (.sh (.bool (PyData.eqv x y))) else .err
def neD (x y : PyData) : T AV := if (okD x && okD y) = true then .ret (.sh (.bool (!PyData.eqv x y))) else .err
theorem and2 {a b : Bool} (h : (a && b) = true) : a = true ∧ b = true := Bool.and_eq_true_iff.mp h
theorem ok_eq : OpOk Tb B X.K (rEqD X.K) eqD := fun W F ρ σ H x y d e Q s a b q => by
  obtain ⟨hz, q⟩ := hold_if q
  exact ⟨d, e, a.dp s.w, b.dp s.w, (and2 hz).1, (and2 hz).2, q W H _ (Ext.refl _) s (.bl _)⟩
theorem ok_ne : OpOk Tb B X.K (rNeD X.K) neD := fun W F ρ σ H x y d e Q s a b q => by
  obtain ⟨hz, q⟩ := hold_if q
  exact ⟨d, e, a.dp s.w, b.dp s.w, (and2 hz).1, (and2 hz).2, q W H _ (Ext.refl _) s (.bl _)⟩
/-- < of alike data -/
def rLtD (K : PySem.W.Frag) (f : PyData → PyData → Bool) : R2 := fun x y H Q => ∃ d e, Dp K H x d ∧ Dp K H y e ∧ PySem.W.alike d e = true ∧ d ≠ .none ∧ d.depth ≤ 64 ∧ Q (.bl (f d e)) H
theorem room_min {A : Around} {d e : PyData} (h : d.depth ≤ 64) (hu : A.units + 200 < cLine) : A.units + min d.depth e.depth < cLine := by
  have := Nat.min_le_left d.depth e.depth
  omega
theorem op_ltD (hu : X.A.units + 200 < cLine) : OpR X (compareOp .Lt) (rLtD X.K fun d e => PySem.W.dataLt d e) := by
  intro pins s σ H x y v u Q I rx ry ⟨d, e, hd, he, ha, hn, hz, q⟩
  obtain ⟨as, r1⟩ := Dp.reads I d x v hd rx
  obtain ⟨bs, r2⟩ := Dp.reads I e y u he ry
  exact PySem.W.lt_data r1 r2 ha hn (room_min hz hu) ⟨.bl _, H, I, rfl, q⟩
theorem op_gtD (hu : X.A.units + 200 < cLine) : OpR X (compareOp .Gt) (rLtD X.K fun d e => PySem.W.dataLt e d) := by
  intro pins s σ H x y v u Q I rx ry ⟨d, e, hd, he, ha, hn, hz, q⟩
  obtain ⟨as, r1⟩ := Dp.reads I d x v hd rx
  obtain ⟨bs, r2⟩ := Dp.reads I e y u he ry
  exact PySem.W.gt_data r1 r2 ha hn (room_min hz hu) ⟨.bl _, H, I, rfl, q⟩
theorem op_leD (hu : X.A.units + 200 < cLine) : OpR X (compareOp .LtE) (rLtD X.K fun d e => !PySem.W.dataLt e d) := by
  intro pins s σ H x y v u Q I rx ry ⟨d, e, hd, he, ha, hn, hz, q⟩
  obtain ⟨as, r1⟩ := Dp.reads I d x v hd rx
  obtain ⟨bs, r2⟩ := Dp.reads I e y u he ry
  exact PySem.W.le_data r1 r2 ha hn (room_min hz hu) ⟨.bl _, H, I, rfl, q⟩
theorem op_geD (hu : X.A.units + 200 < cLine) : OpR X (compareOp .GtE) (rLtD X.K fun d e => !PySem.W.dataLt d e) := by
  intro pins s σ H x y v u Q I rx ry ⟨d, e, hd, he, ha, hn, hz, q⟩
  obtain ⟨as, r1⟩ := Dp.reads I d x v hd rx
  obtain ⟨bs, r2⟩ := Dp.reads I e y u he ry
  exact PySem.W.ge_data r1 r2 ha hn (room_min hz hu) ⟨.bl _, H, I, rfl, q⟩
def isNone : PyData → Bool
  | .none => true
  | _ => false
/-- an order by fI of numbers, by f of all alike data -/
def ordD (fI : Int → Int → Bool) (f : PyData → PyData → Bool) (x y : PyData) : T AV := match x, y with
  | .int i, .int j => .ret (.sh (.bool (fI i j)))
  | x, y => if (PySem.W.alike x y && (!isNone x && decide (x.depth ≤ 64))) = true then .ret (.sh (.bool (f x y))) else .err
abbrev ltD : PyData → PyData → T AV := ordD (fun i j => decide (i < j)) fun d e => PySem.W.dataLt d e
abbrev gtD : PyData → PyData → T AV := ordD (fun i j => decide (j < i)) fun d e => PySem.W.dataLt e d
abbrev leD : PyData → PyData → T AV := ordD (fun i j => decide (i ≤ j)) fun d e => !PySem.W.dataLt e d
abbrev geD : PyData → PyData → T AV := ordD (fun i j => decide (j ≤ i)) fun d e => !PySem.W.dataLt d e
theorem ok_ord {K : PySem.W.Frag} {fI : Int → Int → Bool} {f : PyData → PyData → Bool} : OpOk Tb B K (fun x y H Q => rI0 (fun i j => .bl (fI i j)) x y H Q ∨ rLtD K f x y H Q) (ordD fI f) := fun W F ρ σ H x y d e Q s a b q => by
  have gen : Hold (if (PySem.W.alike d e && (!isNone d && decide (d.depth ≤ 64))) = true then T.ret (AV.sh (.bool (f d e))) else .err) (RPost K Tb B W F ρ σ Q) → rLtD K f x y H Q := fun q => by
    obtain ⟨hz, q⟩ := hold_if q
    obtain ⟨h1, h2⟩ := and2 hz
    obtain ⟨h2, h3⟩ := and2 h2
    have hn : d ≠ .none := fun z => by
      subst z
      cases h2
    exact ⟨d, e, a.dp s.w, b.dp s.w, h1, hn, of_decide_eq_true h3, q W H _ (Ext.refl _) s (.bl _)⟩
  cases d with
  | int i => cases e with
    | int j => exact .inl ⟨i, j, a.int, b.int, q W H _ (Ext.refl _) s (.bl _)⟩
    | _ => exact .inr (gen q)
  | _ => exact .inr (gen q)
/-! ### in -/
def seqOf : PyData → Option (List PyData)
  | .list ds => some ds
  | .tuple ds => some ds
  | _ => none
def rInA (K : PySem.W.Frag) (f : Bool → Bool) : R2 := fun x y H Q => ∃ d e ds, Dp K H x d ∧ Dp K H y e ∧ seqOf e = some ds ∧ SeqAt.shaped d = true ∧ SeqAt.shaped e = true ∧ Q (.bl (f (ds.any fun z => PyData.eqv z d))) H
theorem room_in {A : Around} {d : PyData} {ds : List PyData} (h : SeqAt.shaped d = true) (hu : A.units + 200 < cLine) : A.units + 1 + min (PyData.depthAll ds) d.depth < cLine := by
  have h1 := SeqAt.depth_of_shaped h
  have h2 : min (PyData.depthAll ds) d.depth ≤ d.depth := Nat.min_le_right _ _
  omega
theorem op_inA (hu : X.A.units + 200 < cLine) : OpR X (compareOp .In) (rInA X.K id) := by
  intro pins s σ H x y v u Q I rx ry ⟨d, e, ds, hd, he, hs, sd, se, q⟩
  obtain ⟨as, r1⟩ := Dp.reads I d x v hd rx
  obtain ⟨bs, r2⟩ := Dp.reads I e y u he ry
  cases e with
  | list es =>
    cases hs
    exact SeqAt.in_list_reads r2 r1 (SeqAt.canLay_of_shaped se) (SeqAt.canLay_of_shaped sd) (room_in sd hu) ⟨.bl _, H, I, rfl, q⟩
  | tuple es =>
    cases hs
    exact SeqAt.in_tuple_reads r2 r1 (SeqAt.canLay_of_shaped se) (SeqAt.canLay_of_shaped sd) (room_in sd hu) ⟨.bl _, H, I, rfl, q⟩
  | _ => cases hs
theorem op_notInA (hu : X.A.units + 200 < cLine) : OpR X (compareOp .NotIn) (rInA X.K not) := by
  intro pins s σ H x y v u Q I rx ry ⟨d, e, ds, hd, he, hs, sd, se, q⟩
  obtain ⟨as, r1⟩ := Dp.reads I d x v hd rx
  obtain ⟨bs, r2⟩ := Dp.reads I e y u he ry
  cases e with
  | list es =>
    cases hs
    exact SeqAt.notIn_list_reads r2 r1 (SeqAt.canLay_of_shaped se) (SeqAt.canLay_of_shaped sd) (room_in sd hu) ⟨.bl _, H, I, rfl, q⟩
  | tuple es =>
    cases hs
    exact SeqAt.notIn_tuple_reads r2 r1 (SeqAt.canLay_of_shaped se) (SeqAt.canLay_of_shaped sd) (room_in sd hu) ⟨.bl _, H, I, rfl, q⟩
  | _ => cases hs
def memD (f : Bool → Bool) (x y : PyData) : T AV := match seqOf y with
  | some ds => if (okD x && okD y) = true then .ret (.sh (.bool (f (ds.any fun z => PyData.eqv z x)))) else .err
  | none => .err
theorem ok_mem {K : PySem.W.Frag} {f : Bool → Bool} : OpOk Tb B K (rInA K f) (memD f) := fun W F ρ σ H x y d e Q s a b q => by
  unfold memD at q
  cases h : seqOf e with
  | none => rw [h] at q; exact q.elim
  | some ds =>
    rw [h] at q
    obtain ⟨hz, q⟩ := hold_if q
    exact ⟨d, e, ds, a.dp s.w, b.dp s.w, h, (and2 hz).1, (and2 hz).2, q W H _ (Ext.refl _) s (.bl _)⟩
/-! ### is -/
def isND (f : Bool → Bool) : PyData → PyData → T AV
  | x, .none => .ret (.sh (.bool (f (isNone x))))
  | _, _ => .err
theorem isNone_iff {K : PySem.W.Frag} {W : Wd} {H : Hp} {x : V} {d : PyData} (h : Rb K W H x d) : decide (x = .non) = isNone d := by
  cases d with
  | list ds =>
    obtain ⟨a, vs, rfl, _⟩ := h.list
    rfl
  | _ => cases h <;> rfl
theorem ok_isN : OpOk Tb B X.K (fun x y H Q => y = .non ∧ Q (.bl (decide (x = .non))) H) (isND id) := fun W F ρ σ H x y d e Q s a b q => by
  cases e with
  | none =>
    cases b
    refine ⟨rfl, ?_⟩
    rw [isNone_iff a]
    exact q W H _ (Ext.refl _) s (.bl _)
  | _ => exact q.elim
theorem ok_notN : OpOk Tb B X.K (fun x y H Q => y = .non ∧ Q (.bl (!decide (x = .non))) H) (isND not) := fun W F ρ σ H x y d e Q s a b q => by
  cases e with
  | none =>
    cases b
    refine ⟨rfl, ?_⟩
    rw [isNone_iff a]
    exact q W H _ (Ext.refl _) s (.bl _)
  | _ => exact q.elim
/-- x is True, of a truth value -/
def isBD (f : Bool → Bool) : PyData → PyData → T AV
  | .bool x, .bool y => .ret (.sh (.bool (f (x == y))))
  | _, _ => .err
/-! ### subscripts -/
def ixD : PyData → PyData → T AV
  | .list ds, .int i => match atI ds i with
    | some d => .ret (.sh d)
    | none => .err
  | .tuple ds, .int i => match atI ds i with
    | some d => .ret (.sh d)
    | none => .err
  | _, _ => .err
theorem atI_get {K : PySem.W.Frag} {H : Hp} {vs : List V} {ds : List PyData} {i : Int} {d : PyData} (h : DpAll K H vs ds) (e : atI ds i = some d) : ∃ v, atI vs i = some v ∧ Dp K H v d := by
  unfold atI at e ⊢
  rw [DpAll.len h]
  cases q : ixN ds.length i with
  | none => rw [q] at e; cases e
  | some j =>
    rw [q] at e
    exact DpAll.get h e
theorem ok_ix : OpOk Tb B X.K (rIx X.K) ixD := fun W F ρ σ H x y d e Q s a b q => by
  cases d with
  | list ds => cases e with
    | int i =>
      obtain ⟨p, vs, rfl, h1, _, h2⟩ := a.list
      cases b
      have q : Hold (match atI ds i with
        | some d => T.ret (AV.sh d)
        | none => .err) (RPost X.K Tb B W F ρ σ Q) := q
      cases e : atI ds i with
      | none => rw [e] at q; exact q.elim
      | some d =>
        rw [e] at q
        obtain ⟨v, hv, hd⟩ := atI_get h2 e
        exact .inl ⟨p, vs, i, v, rfl, rfl, h1, hv, q W H v (Ext.refl _) s hd⟩
    | _ => exact q.elim
  | tuple ds => cases e with
    | int i =>
      obtain ⟨p, vs, rfl, _, h1, _, h2⟩ := Rb.tup s.w a
      cases b
      have q : Hold (match atI ds i with
        | some d => T.ret (AV.sh d)
        | none => .err) (RPost X.K Tb B W F ρ σ Q) := q
      cases e : atI ds i with
      | none => rw [e] at q; exact q.elim
      | some d =>
        rw [e] at q
        obtain ⟨v, hv, hd⟩ := atI_get h2 e
        exact .inr (.inl ⟨p, vs, i, v, rfl, rfl, h1, hv, q W H v (Ext.refl _) s hd⟩)
    | _ => exact q.elim
  | _ => exact q.elim
end
end Dn
end
section
set_option Elab.async false
set_option linter.all false
set_option autoImplicit false
set_option maxRecDepth 100000
/-! Dn6: built-ins by what they do to data. -/
namespace Dn
open PySem PySem.Spec PyProof.Rows L2 LamX

section
variable {Tb : List (Addr × Str)} {B : Wd → V → (List PyData → T PyData) → Prop} {X : Cx}
/-- one argument -/
def one1 (f : PyData → T AV) : List PyData → T AV
  | [d] => f d
  | _ => .err
theorem call1 {K : PySem.W.Frag} {r : List V → Hp → VK → Prop} {f : PyData → T AV} (h : ∀ W F ρ σ H v d Q, Sim K Tb B W F ρ σ H → Rb K W H v d → Hold (f d) (RPost K Tb B W F ρ σ Q) → r [v] H Q) : CallOk Tb B K r (one1 f) := fun W F ρ σ H vs ds Q s a q => by
  cases a with
  | nil => exact q.elim
  | cons h1 h2 =>
    cases h2 with
    | nil => exact h W F ρ σ H _ _ Q s h1 q
    | cons _ _ => exact q.elim
def two2 (f : PyData → PyData → T AV) : List PyData → T AV
  | [d, e] => f d e
  | _ => .err
theorem call2 {K : PySem.W.Frag} {r : List V → Hp → VK → Prop} {f : PyData → PyData → T AV} (h : ∀ W F ρ σ H v w d e Q, Sim K Tb B W F ρ σ H → Rb K W H v d → Rb K W H w e → Hold (f d e) (RPost K Tb B W F ρ σ Q) → r [v, w] H Q) : CallOk Tb B K r (two2 f) := fun W F ρ σ H vs ds Q s a q => by
  cases a with
  | nil => exact q.elim
  | cons h1 h2 =>
    cases h2 with
    | nil => exact q.elim
    | cons h3 h4 =>
      cases h4 with
      | nil => exact h W F ρ σ H _ _ _ _ Q s h1 h3 q
      | cons _ _ => exact q.elim
/-- what a list or a tuple holds -/
theorem Rb.seq {K : PySem.W.Frag} {W : Wd} {F H : Hp} {v : V} {d : PyData} {ds : List PyData} (w : WOk Tb W F H) (h : Rb K W H v d) (e : seqOf d = some ds) : ∃ a vs, v = .ref a ∧ (SqL K H a vs ∨ SqT K H a vs) ∧ vs.length ≤ sizeLine ∧ DpAll K W.Φ vs ds := by
  cases d with
  | list es =>
    cases e
    obtain ⟨a, vs, h1, h2, h3, h4⟩ := h.list
    exact ⟨a, vs, h1, .inl h2, h3, h4⟩
  | tuple es =>
    cases e
    obtain ⟨a, vs, h1, _, h2, h3, h4⟩ := Rb.tup w h
    exact ⟨a, vs, h1, .inr h2, h3, h4⟩
  | _ => cases e
def optT {α β : Type} (o : Option α) (f : α → T β) : T β := match o with
  | some a => f a
  | none => .err
theorem hold_opt {α β : Type} {o : Option α} {f : α → T β} {p : β → Prop} (h : Hold (optT o f) p) : ∃ a, o = some a ∧ Hold (f a) p := by
  cases o with
  | none => exact h.elim
  | some a => exact ⟨a, rfl, h⟩
/-! ### len, list, tuple -/
def lenD : List PyData → T AV := one1 fun d => optT (seqOf d) fun ds => .ret (.sh (.int (ds.length : Nat)))
theorem ok_len : CallOk Tb B X.K (fun xs H Q => ∃ p ys, xs = [V.ref p] ∧ (SqL X.K H p ys ∨ SqT X.K H p ys) ∧ Q (V.int (ys.length : Nat)) H) lenD := call1 fun W F ρ σ H v d Q s a q => by
  obtain ⟨ds, e, q⟩ := hold_opt q
  obtain ⟨p, vs, rfl, h1, _, h2⟩ := a.seq s.w e
  exact ⟨p, vs, rfl, h1, by rw [DpAll.len h2]; exact q W H _ (Ext.refl _) s (.int _)⟩
def listD : List PyData → T AV := one1 fun d => optT (seqOf d) fun ds => .ret (.own ds)
theorem ok_list : CallOk Tb B X.K (fun xs H Q => ∃ p ys, xs = [V.ref p] ∧ (SqL X.K H p ys ∨ SqT X.K H p ys) ∧ ∀ l, H l = none → Q (V.ref l) (upd H l (.lst ys))) listD := call1 fun W F ρ σ H v d Q s a q => by
  obtain ⟨ds, e, q⟩ := hold_opt q
  obtain ⟨p, vs, rfl, h1, hz, h2⟩ := a.seq s.w e
  exact ⟨p, vs, rfl, h1, s.mkL h2 hz q⟩
def tupleD : List PyData → T AV := one1 fun d => optT (seqOf d) fun ds => .ret (.sh (.tuple ds))
theorem ok_tuple : CallOk Tb B X.K (fun xs H Q => ∃ p ys, xs = [V.ref p] ∧ ((SqL X.K H p ys ∧ ∀ l, H l = none → Q (V.ref l) (upd H l (.tup ys))) ∨ (SqT X.K H p ys ∧ Q (V.ref p) H))) tupleD := call1 fun W F ρ σ H v d Q s a q => by
  cases d with
  | list es =>
    obtain ⟨p, vs, rfl, h1, hz, h2⟩ := a.list
    exact ⟨p, vs, rfl, .inl ⟨h1, s.mkT h2 hz q⟩⟩
  | tuple es =>
    obtain ⟨p, vs, rfl, h0, h1, hz, h2⟩ := Rb.tup s.w a
    exact ⟨p, vs, rfl, .inr ⟨h1, q W H _ (Ext.refl _) s (.tup h0 h2)⟩⟩
  | _ => exact q.elim
/-! ### all, any -/
def boolsOf : List PyData → Option (List Bool)
  | [] => some []
  | .bool b :: ds => match boolsOf ds with
    | some bs => some (b :: bs)
    | none => none
  | _ :: _ => none
theorem bools_vals {K : PySem.W.Frag} {H : Hp} : ∀ {ds : List PyData} {vs : List V} {bs : List Bool}, DpAll K H vs ds → boolsOf ds = some bs → vs = bs.map V.bl
  | [], _, _, h, e => by
    cases h
    cases e
    rfl
  | .bool b :: ds, _, bs, h, e => by
    cases h with
    | cons h1 h2 =>
      cases h1
      have e : (match boolsOf ds with
        | some bs => some (b :: bs)
        | none => none) = some bs := e
      cases q : boolsOf ds with
      | none => rw [q] at e; cases e
      | some cs =>
        rw [q] at e
        cases e
        rw [List.map_cons, bools_vals h2 q]
  | .none :: _, _, _, _, e => by cases e
  | .int _ :: _, _, _, _, e => by cases e
  | .str _ :: _, _, _, _, e => by cases e
  | .list _ :: _, _, _, _, e => by cases e
  | .tuple _ :: _, _, _, _, e => by cases e
  | .dict _ :: _, _, _, _, e => by cases e
def boolD (f : List Bool → Bool) : List PyData → T AV := one1 fun d => match d with
  | .list ds => optT (boolsOf ds) fun bs => .ret (.sh (.bool (f bs)))
  | _ => .err
theorem ok_bools {f : List Bool → Bool} : CallOk Tb B X.K (fun vs H Q => ∃ (a : Addr) (bs : List Bool), vs = [V.ref a] ∧ SqL X.K H a (bs.map V.bl) ∧ Q (.bl (f bs)) H) (boolD f) := call1 fun W F ρ σ H v d Q s a q => by
  cases d with
  | list ds =>
    obtain ⟨bs, e, q⟩ := hold_opt (o := boolsOf ds) q
    obtain ⟨p, vs, rfl, h1, hz, h2⟩ := a.list
    rw [bools_vals h2 e] at h1
    exact ⟨p, bs, rfl, h1, q W H _ (Ext.refl _) s (.bl _)⟩
  | _ => exact q.elim
abbrev allD : List PyData → T AV := boolD fun bs => bs.all id
abbrev anyD : List PyData → T AV := boolD fun bs => bs.any id
/-! ### numbers -/
def absD : List PyData → T AV := one1 fun d => match d with
  | .int i => .ret (.sh (.int (if i < 0 then -i else i)))
  | _ => .err
theorem ok_abs : CallOk Tb B X.K (fun xs H Q => ∃ i, xs = [V.int i] ∧ Q (.int (if i < 0 then -i else i)) H) absD := call1 fun W F ρ σ H v d Q s a q => by
  cases d with
  | int i => exact ⟨i, by rw [a.int], q W H _ (Ext.refl _) s (.int _)⟩
  | _ => exact q.elim
def intOfD : List PyData → T AV := one1 fun d => match d with
  | .int i => .ret (.sh (.int i))
  | .bool b => .ret (.sh (.int (if b = true then 1 else 0)))
  | _ => .err
theorem ok_intOf : CallOk Tb B X.K (fun xs H Q => (∃ i, xs = [V.int i] ∧ Q (.int i) H) ∨ ∃ k : Bool, xs = [V.bl k] ∧ Q (.int (if k = true then 1 else 0)) H) intOfD := call1 fun W F ρ σ H v d Q s a q => by
  cases d with
  | int i => exact .inl ⟨i, by rw [a.int], q W H _ (Ext.refl _) s (.int _)⟩
  | bool b => exact .inr ⟨b, by rw [a.bool], q W H _ (Ext.refl _) s (.int _)⟩
  | _ => exact q.elim
def max2D : List PyData → T AV := two2 (intD fun i j => .ret (.sh (.int (if j > i then j else i))))
def min2D : List PyData → T AV := two2 (intD fun i j => .ret (.sh (.int (if j < i then j else i))))
theorem ok_max2 : CallOk Tb B X.K (fun xs H Q => ∃ i j : Int, xs = [V.int i, V.int j] ∧ Q (.int (if j > i then j else i)) H) max2D := call2 fun W F ρ σ H v w d e Q s a b q => by
  cases d with
  | int i => cases e with
    | int j => exact ⟨i, j, by rw [a.int, b.int], q W H _ (Ext.refl _) s (.int _)⟩
    | _ => exact q.elim
  | _ => exact q.elim
theorem ok_min2 : CallOk Tb B X.K (fun xs H Q => ∃ i j : Int, xs = [V.int i, V.int j] ∧ Q (.int (if j < i then j else i)) H) min2D := call2 fun W F ρ σ H v w d e Q s a b q => by
  cases d with
  | int i => cases e with
    | int j => exact ⟨i, j, by rw [a.int, b.int], q W H _ (Ext.refl _) s (.int _)⟩
    | _ => exact q.elim
  | _ => exact q.elim
def intsOf : List PyData → Option (List Int)
  | [] => some []
  | .int b :: ds => match intsOf ds with
    | some bs => some (b :: bs)
    | none => none
  | _ :: _ => none
theorem ints_vals {K : PySem.W.Frag} {H : Hp} : ∀ {ds : List PyData} {vs : List V} {bs : List Int}, DpAll K H vs ds → intsOf ds = some bs → vs = bs.map V.int ∧ ds = bs.map PyData.int
  | [], _, _, h, e => by
    cases h
    cases e
    exact ⟨rfl, rfl⟩
  | .int b :: ds, _, bs, h, e => by
    cases h with
    | cons h1 h2 =>
      cases h1
      have e : (match intsOf ds with
        | some bs => some (b :: bs)
        | none => none) = some bs := e
      cases q : intsOf ds with
      | none => rw [q] at e; cases e
      | some cs =>
        rw [q] at e
        cases e
        obtain ⟨e1, e2⟩ := ints_vals h2 q
        exact ⟨by rw [List.map_cons, e1], by rw [List.map_cons, e2]⟩
  | .none :: _, _, _, _, e => by cases e
  | .bool _ :: _, _, _, _, e => by cases e
  | .str _ :: _, _, _, _, e => by cases e
  | .list _ :: _, _, _, _, e => by cases e
  | .tuple _ :: _, _, _, _, e => by cases e
  | .dict _ :: _, _, _, _, e => by cases e
def sumD : List PyData → T AV := one1 fun d => match d with
  | .list ds => optT (intsOf ds) fun bs => .ret (.sh (.int bs.sum))
  | _ => .err
theorem ok_sum : CallOk Tb B X.K (rSum X.K) sumD := call1 fun W F ρ σ H v d Q s a q => by
  cases d with
  | list ds =>
    obtain ⟨bs, e, q⟩ := hold_opt (o := intsOf ds) q
    obtain ⟨p, vs, rfl, h1, hz, h2⟩ := a.list
    rw [(ints_vals h2 e).1] at h1
    exact ⟨p, bs, rfl, h1, q W H _ (Ext.refl _) s (.int _)⟩
  | _ => exact q.elim
/-! ### isinstance -/
def tyName : PyData → String
  | .none => "NoneType"
  | .bool _ => "bool"
  | .int _ => "int"
  | .str _ => "str"
  | .list _ => "list"
  | .tuple _ => "tuple"
  | .dict _ => "dict"
theorem ty_of {K : PySem.W.Frag} {W : Wd} {F H : Hp} {v : V} {d : PyData} (w : WOk Tb W F H) (h : Rb K W H v d) : TyX K H v (.type (tyName d)) := by
  cases d with
  | none => cases h; exact .base .non
  | bool b => cases h; exact .base (.bl b)
  | int i => cases h; exact .base (.int i)
  | str x => cases h; exact .base (.str x)
  | list ds =>
    obtain ⟨a, vs, rfl, h1, _⟩ := h.list
    rcases h1 with (h1 | ⟨o, h1⟩) | ⟨o, its, n, h1, h2, _⟩
    · exact .base (.lst h1)
    · exact .base (.frz h1)
    · exact .kList h1 h2
  | tuple ds =>
    obtain ⟨a, vs, rfl, _, h1, _⟩ := Rb.tup w h
    rcases h1 with (h1 | ⟨o, h1⟩) | ⟨o, its, n, h1, h2, _⟩
    · exact .base (.tup h1)
    · exact .fTuple h1
    · exact .kTuple h1 h2
  | dict _ => cases h
/-- what isinstance tells of the built-in types' names -/
def isTy (T : String) (d : PyData) : Bool := tyName d == T || (T == "int" && tyName d == "bool")
def Kit (T : String) : Prop := ∀ d : PyData, kitB (tyName d) T = some (isTy T d)
theorem kit_of {T : String} (h : (["NoneType", "bool", "int", "str", "list", "tuple", "dict"].all fun n => decide (kitB n T = some (n == T || (T == "int" && n == "bool")))) = true) : Kit T := fun d => by
  have q := List.all_eq_true.mp h
  have m : tyName d ∈ ["NoneType", "bool", "int", "str", "list", "tuple", "dict"] := by cases d <;> simp [tyName]
  exact of_decide_eq_true (q _ m)
theorem kit_int : Kit "int" := kit_of (by decide +kernel)
theorem kit_bool : Kit "bool" := kit_of (by decide +kernel)
theorem kit_tuple : Kit "tuple" := kit_of (by decide +kernel)
theorem kit_list : Kit "list" := kit_of (by decide +kernel)
theorem kit_str : Kit "str" := kit_of (by decide +kernel)
theorem pd_isi {a : Expr} {f : Env → T PyData} {T : String} {x : Str} {p pc pos : Pos} (ha : PB Tb B X a f) (hg : Gl X "isinstance") (hm : X.mg "isinstance" = none) (hgT : Gl X x) (hmT : X.mg x = none) (hT : bootBuiltins x = some (.type T)) (kt : Kit T)
    (hn : x ≠ "__name__" := by decide) (hd : (x == ("__debug__" : Str)) = false := by decide)
    (h1 : starEach [a, .Name x p] X.env = (false, eval a X.env) :: starEach [.Name x p] X.env := by rfl) (h2 : starEach [.Name x p] X.env = (false, eval (.Name x p) X.env) :: starEach [] X.env := by rfl)
    (hpl : (backTo pos (starEach [.Name x p] X.env)).any (·.1) = false := by rfl) :
    PD Tb B X (.Call (.Name "isinstance" pc) [a, .Name x p] [] pos) fun ρ => (f ρ).bind fun d => .ret (.sh (.bool (isTy T d))) := by
  refine PE.weaken (pe_callB call_isi hg hm (by decide +kernel) (pa_cons ha (pa_cons (pe_bltn (v := .ty T) hgT hmT hT rfl hn hd) pa_nil h2) h1) (by decide) (by decide) h1 hpl) fun σ H Q ⟨W, F, ρ, s, q⟩ => ?_
  refine ⟨W, F, ρ, s, (Hold.bind q).mono fun d z W1 H1 v e1 s1 r1 => ?_⟩
  have r := r1 W1 F H1 (Ext.refl _) s1
  exact ⟨v, .ty T, _, .type T, _, rfl, .ty T, ty_of s1.w r, kit_ty (kt d), z W1 H1 _ e1 s1 (.bl _)⟩
theorem kit_any2 {K : PySem.W.Frag} {d : PyData} {S T : String} (h1 : kitB (tyName d) S = some (isTy S d)) (h2 : kitB (tyName d) T = some (isTy T d)) : PySem.W.kitAny K (.type (tyName d)) [.type S, .type T] = some (isTy S d || isTy T d) := by
  have e1 := kit_ty (K := K) h1
  have e2 := kit_ty (K := K) h2
  unfold PySem.W.kitAny
  rw [e1]
  cases isTy S d with
  | true => rfl
  | false =>
    show PySem.W.kitAny K _ [_] = _
    unfold PySem.W.kitAny
    rw [e2]
    cases isTy T d <;> rfl
theorem pd_isi2 {a : Expr} {f : Env → T PyData} {S T : String} {x y : Str} {p p2 pt pc pos : Pos} {k : Nat} (ha : PB Tb B X a f) (hg : Gl X "isinstance") (hm : X.mg "isinstance" = none) (hgS : Gl X x) (hmS : X.mg x = none) (hS : bootBuiltins x = some (.type S)) (hgT : Gl X y) (hmT : X.mg y = none) (hT : bootBuiltins y = some (.type T)) (ks : Kit S) (kt : Kit T)
    (hn : x ≠ "__name__" := by decide) (hd : (x == ("__debug__" : Str)) = false := by decide) (hn2 : y ≠ "__name__" := by decide) (hd2 : (y == ("__debug__" : Str)) = false := by decide)
    (h1 : starEach [a, .Tuple [.Name x p, .Name y p2] k pt] X.env = (false, eval a X.env) :: starEach [.Tuple [.Name x p, .Name y p2] k pt] X.env := by rfl)
    (h2 : starEach [.Tuple [.Name x p, .Name y p2] k pt] X.env = (false, eval (.Tuple [.Name x p, .Name y p2] k pt) X.env) :: starEach [] X.env := by rfl)
    (h3 : starEach [.Name x p, .Name y p2] X.env = (false, eval (.Name x p) X.env) :: starEach [.Name y p2] X.env := by rfl) (h4 : starEach [.Name y p2] X.env = (false, eval (.Name y p2) X.env) :: starEach [] X.env := by rfl)
    (hpl : (backTo pos (starEach [.Tuple [.Name x p, .Name y p2] k pt] X.env)).any (·.1) = false := by rfl) :
    PD Tb B X (.Call (.Name "isinstance" pc) [a, .Tuple [.Name x p, .Name y p2] k pt] [] pos) fun ρ => (f ρ).bind fun d => .ret (.sh (.bool (isTy S d || isTy T d))) := by
  refine PE.weaken (pe_callB call_isiT hg hm (by decide +kernel) (pa_cons ha (pa_cons (pe_tup (pa_cons (pe_bltn (v := .ty S) hgS hmS hS rfl hn hd) (pa_cons (pe_bltn (v := .ty T) hgT hmT hT rfl hn2 hd2) pa_nil h4) h3)) pa_nil h2) h1) (by decide) (by decide) h1 hpl) fun σ H Q ⟨W, F, ρ, s, q⟩ => ?_
  refine ⟨W, F, ρ, s, (Hold.bind q).mono fun d z W1 H1 v e1 s1 r1 => ?_⟩
  refine ⟨by show 2 ≤ sizeLine; decide, fun tp htp => ?_⟩
  have s2 : Sim X.K Tb B W1 F ρ σ (upd H1 tp (.tup [.ty S, .ty T])) := s1.laid htp
  have r := r1 W1 F _ (Ext.refl _) s2
  exact ⟨v, tp, _, _, [.type S, .type T], _, rfl, upd_same, .cons (.ty S) (.cons (.ty T) .nil), ty_of s2.w r, kit_any2 (ks d) (kt d), z W1 _ _ e1 s2 (.bl _)⟩
end
end Dn
end
section
set_option Elab.async false
set_option linter.all false
set_option autoImplicit false
set_option maxRecDepth 100000
/-! Dn7: sorts, least ones, repr, sets, slices, methods of lists. -/
namespace Dn
open PySem PySem.Spec PyProof.Rows L2 LamX

section
variable {Tb : List (Addr × Str)} {B : Wd → V → (List PyData → T PyData) → Prop} {X : Cx}
theorem decB {x y : Bool} : decide (x = y) = (x == y) := by cases x <;> cases y <;> rfl
theorem ok_isB : OpOk Tb B X.K rIsB (isBD id) := fun W F ρ σ H x y d e Q s a b q => by
  cases d with
  | bool i => cases e with
    | bool j => exact ⟨i, j, a.bool, b.bool, by rw [decB]; exact q W H _ (Ext.refl _) s (.bl _)⟩
    | _ => exact q.elim
  | _ => exact q.elim
theorem ok_notB : OpOk Tb B X.K rNotB (isBD not) := fun W F ρ σ H x y d e Q s a b q => by
  cases d with
  | bool i => cases e with
    | bool j => exact ⟨i, j, a.bool, b.bool, by rw [decB]; exact q W H _ (Ext.refl _) s (.bl _)⟩
    | _ => exact q.elim
  | _ => exact q.elim
/-! ### == and != with texts at once -/
def eqA (x y : PyData) : T AV := match x, y with
  | .str a, .str b => .ret (.sh (.bool (decide (a = b))))
  | x, y => eqD x y
def neA (x y : PyData) : T AV := match x, y with
  | .str a, .str b => .ret (.sh (.bool (!decide (a = b))))
  | x, y => neD x y
theorem strV {a b : Str} : decide (V.str a = V.str b) = decide (a = b) := by
  by_cases h : a = b
  · subst h; simp
  · rw [decide_eq_false h, decide_eq_false fun z => h (V.str.inj z)]
theorem ok_eqA : OpOk Tb B X.K (fun x y H Q => rEq x y H Q ∨ rEqD X.K x y H Q) eqA := fun W F ρ σ H x y d e Q s a b q => by
  cases d with
  | str i => cases e with
    | str j =>
      cases a
      cases b
      exact .inl ⟨rfl, by rw [strV]; exact q W H _ (Ext.refl _) s (.bl _)⟩
    | _ => exact .inr (ok_eq W F ρ σ H x y _ _ Q s a b q)
  | _ => exact .inr (ok_eq W F ρ σ H x y _ _ Q s a b q)
theorem ok_neA : OpOk Tb B X.K (fun x y H Q => rNe x y H Q ∨ rNeD X.K x y H Q) neA := fun W F ρ σ H x y d e Q s a b q => by
  cases d with
  | str i => cases e with
    | str j =>
      cases a
      cases b
      exact .inl ⟨rfl, by rw [strV]; exact q W H _ (Ext.refl _) s (.bl _)⟩
    | _ => exact .inr (ok_ne W F ρ σ H x y _ _ Q s a b q)
  | _ => exact .inr (ok_ne W F ρ σ H x y _ _ Q s a b q)
/-! ### sorted(list) of alike data -/
def rSortD (K : PySem.W.Frag) : List V → Hp → VK → Prop := fun vs H Q => ∃ (Φ : Hp) (a : Addr) (xs : List V) (ds : List PyData), (∀ b o, Φ b = some o → H b = some o) ∧ vs = [.ref a] ∧ SqL K H a xs ∧ DpAll K Φ xs ds ∧ PySem.W.AllAlike ds ∧ PySem.W.Sortable ds ∧ (∀ d ∈ ds, d.depth ≤ 64) ∧
  ∀ (ys : List V) (p : Addr), DpAll K Φ ys (ds.mergeSort (PySem.W.dataLe false id)) → H p = none → Q (.ref p) (upd H p (.lst ys))
theorem each_of {K : PySem.W.Frag} {H : Hp} : ∀ {ds : List PyData} {vs : List V} {us : List Value}, DpAll K H vs ds → Vals vs us → PySem.W.EachIs (fun u d => ∃ v, L2.RelV v u ∧ Dp K H v d) us ds
  | [], _, _, h, r => by
    cases h
    cases r
    exact .nil
  | d :: ds, _, _, h, r => by
    cases h with
    | cons h1 h2 =>
      cases r with
      | cons r1 r2 => exact .cons ⟨_, r1, h1⟩ (each_of h2 r2)
theorem of_each {K : PySem.W.Frag} {H : Hp} : ∀ {ds : List PyData} {us : List Value}, PySem.W.EachIs (fun u d => ∃ v, L2.RelV v u ∧ Dp K H v d) us ds → ∃ vs, Vals vs us ∧ DpAll K H vs ds
  | _, _, .nil => ⟨[], .nil, .nil⟩
  | _, _, .cons ⟨v, r, h⟩ t => by
    obtain ⟨vs, r2, h2⟩ := of_each t
    exact ⟨v :: vs, .cons r r2, .cons h h2⟩
theorem each_imp {α β : Type} {R S : α → β → Prop} (f : ∀ a b, R a b → S a b) : ∀ {l : List α} {m : List β}, PySem.W.EachIs R l m → PySem.W.EachIs S l m
  | _, _, .nil => .nil
  | _, _, .cons h t => .cons (f _ _ h) (each_imp f t)
theorem cr_sortD (hu : X.A.units + 200 < cLine) : CallR X (.builtin "sorted") (rSortD X.K) := by
  intro pins s σ H vs us Q I r h
  obtain ⟨Φ, a, xs, ds, le, rfl, hs, hd, hal, hsk, hdp, q⟩ := h
  obtain ⟨its, rv, hl, hz⟩ := I.list hs
  rw [Vals.ref1 r]
  have hlen := DpAll.len hd
  refine PySem.W.sorted_data (bs := ds) (enc := id) (R := fun u d => ∃ v, L2.RelV v u ∧ Dp X.K Φ v d) hl.isList (each_of hd rv) (each_imp (fun u d ⟨v, r1, h1⟩ => Dp.reads I d v u (dp_le le _ _ h1) r1) (each_of hd rv)) (by rw [List.map_id]; exact hal) (by rw [List.map_id]; exact hsk) (by omega) (fun b hb => ?_) fun out hol ho => ?_
  · have h1 := hdp b hb
    show X.A.units + 2 + (id b).depth < cLine
    have h2 : (id b).depth = b.depth := rfl
    omega
  obtain ⟨ys, rv2, hd2⟩ := of_each ho
  obtain ⟨ep, he'⟩ := PyProof.Rows.sortedAll_at s.heap its out.toArray
  have hyl : ys.length ≤ sizeLine := by rw [rv2.length, hol]; omega
  exact ⟨.ref _, upd H (s.heap.objs.size + 1) (.lst ys), I.laid (t' := s.toks) (fun _ _ => PyProof.Rows.sortedAll_old) (Nat.le_succ _) ⟨hyl, out, ep, rv2, he'⟩, rfl, q _ _ hd2 (I.hok.fresh (Nat.le_succ _))⟩
def alikeB (ds : List PyData) : Bool := ds.all fun d => ds.all fun e => PySem.W.alike d e
def isTup : PyData → Bool
  | .tuple _ => true
  | _ => false
def isTup1 : PyData → Bool
  | .tuple (_ :: _) => true
  | _ => false
def sortB (ds : List PyData) : Bool := (ds.all isTup1 || ds.all fun d => !isNone d && !isTup d) && ds.all fun d => decide (d.depth ≤ 64)
def sortOf (ds : List PyData) : List PyData := ds.mergeSort (PySem.W.dataLe false id)
def sortedL (ds : List PyData) : T AV := if (alikeB ds && sortB ds) = true then .ret (.own (sortOf ds)) else .err
def sortedD : List PyData → T AV := one1 fun d => match d with
  | .list ds => sortedL ds
  | _ => .err
theorem alikeB_ok {ds : List PyData} (h : alikeB ds = true) : PySem.W.AllAlike ds := fun d hd e he => List.all_eq_true.mp (List.all_eq_true.mp h d hd) e he
theorem sortB_ok {ds : List PyData} (h : sortB ds = true) : PySem.W.Sortable ds ∧ ∀ d ∈ ds, d.depth ≤ 64 := by
  obtain ⟨h1, h2⟩ := and2 h
  refine ⟨?_, fun d hd => of_decide_eq_true (List.all_eq_true.mp h2 d hd)⟩
  rcases Bool.or_eq_true_iff.mp h1 with h1 | h1
  · refine .inl fun d hd => ?_
    have q := List.all_eq_true.mp h1 d hd
    unfold isTup1 at q
    split at q
    · exact ⟨_, _, rfl⟩
    · cases q
  · refine .inr fun d hd => ?_
    obtain ⟨q1, q2⟩ := and2 (List.all_eq_true.mp h1 d hd)
    refine ⟨fun z => ?_, fun xs z => ?_⟩
    · subst z
      cases q1
    · subst z
      cases q2
theorem mem_sortOf {ds : List PyData} {d : PyData} : d ∈ sortOf ds ↔ d ∈ ds := List.mem_mergeSort
/-- data that come with less of the heap -/
theorem ok_sorted : CallOk Tb B X.K (rSortD X.K) sortedD := call1 fun W F ρ σ H v d Q s a q => by
  cases d with
  | list ds =>
    obtain ⟨p, vs, rfl, h1, hz, h2⟩ := a.list
    obtain ⟨hb, q⟩ := hold_if q
    obtain ⟨b1, b2⟩ := and2 hb
    obtain ⟨k1, k2⟩ := sortB_ok b2
    exact ⟨W.Φ, p, vs, ds, s.w.fz, rfl, h1, h2, alikeB_ok b1, k1, k2, fun ys p' hy hp => s.mkL hy (by
      have e1 := DpAll.len hy
      have e2 := DpAll.len h2
      rw [List.length_mergeSort] at e1
      omega) q p' hp⟩
  | _ => exact q.elim
/-! ### min, max of a list of alike data -/
def rBestD (K : PySem.W.Frag) (best : PyData → List PyData → PyData) : List V → Hp → VK → Prop := fun vs H Q => ∃ (a : Addr) (xs : List V) (d : PyData) (ds : List PyData), vs = [.ref a] ∧ SqL K H a xs ∧ DpAll K H xs (d :: ds) ∧ PySem.W.AlikeAll (d :: ds) ∧ PyData.canLayAll0 (d :: ds) = true ∧ PyData.depthAll (d :: ds) ≤ 64 ∧
  ∀ (i : Nat) (v : V), xs[i]? = some v → (d :: ds)[i]? = some (best d ds) → Q v H
theorem best_at {pins : List (Addr × Obj)} {σ : L2.St} {H : Hp} {s : Shared} {xs : List V} {ds : List PyData} {its : List Value} {h' : Heap} {v : Value} {i : Nat} {e : PyData} {bs : List Addr} (I : Inv X pins σ H s) (hd : DpAll X.K H xs ds) (rv : Vals xs its) (hc : PyData.canLayAll0 ds = true) (hv : its[i]? = some v) (hr : Reads h' v e bs) (he : e ∈ ds)
    (hk : ∀ b o, s.heap.get? b = some o → h'.get? b = some o) : ∃ x, xs[i]? = some x ∧ L2.RelV x v ∧ ds[i]? = some e := by
  obtain ⟨as, ra⟩ := Dp.readsAll I ds _ its hd rv
  have e1 := SeqAt.readsAll_map ds its as hc ra
  have lay : ∀ {l : List PyData} {y : PyData}, PyData.canLayAll0 l = true → y ∈ l → y.canLay0 = true := fun {l} => by
    induction l with
    | nil => intro y _ h; cases h
    | cons a l ih =>
      intro y h m
      have h : (a.canLay0 && PyData.canLayAll0 l) = true := h
      obtain ⟨h1, h2⟩ := and2 h
      rcases List.mem_cons.mp m with rfl | m
      · exact h1
      · exact ih h2 m
  cases hx : xs[i]? with
  | none =>
    rw [rv.none_of hx] at hv
    cases hv
  | some x =>
    obtain ⟨u, hu, ru⟩ := rv.get hx
    rw [hv] at hu
    cases hu
    obtain ⟨y, hy, hyd⟩ := DpAll.getV hd hx
    obtain ⟨as2, r2⟩ := Dp.reads I y x v hyd ru
    have r3 := PyProof.Rows.Reads.keeps hk r2
    have q1 := SeqAt.readOf_eq (lay hc he) hr
    have q2 := SeqAt.readOf_eq (lay hc (List.mem_of_getElem? hy)) r3
    rw [q1] at q2
    subst q2
    exact ⟨x, rfl, ru, hy⟩
theorem fold_mem {f : PyData → PyData → Bool} : ∀ (ds : List PyData) (d : PyData), ds.foldl (fun a y => if f a y = true then y else a) d ∈ d :: ds
  | [], d => by simp
  | y :: ds, d => by
    rw [List.foldl_cons]
    have ih := fold_mem (f := f) ds (if f d y = true then y else d)
    split at ih
    · rename_i h
      rw [if_pos h]
      exact List.mem_cons_of_mem _ ih
    · rename_i h
      rw [if_neg h]
      rcases List.mem_cons.mp ih with h2 | h2
      · rw [h2]; exact List.mem_cons_self
      · exact List.mem_cons_of_mem _ (List.mem_cons_of_mem _ h2)
theorem cr_minD (hc : X.calm = true) (hu : X.A.units + 200 < cLine) : CallR X (.builtin "min") (rBestD X.K PySem.W.minD) := by
  intro pins s σ H vs us Q I r h
  obtain ⟨a, xs, d, ds, rfl, hs, hd, hal, hcl, hdp, q⟩ := h
  obtain ⟨its, rv, hl, hz⟩ := I.list hs
  rw [Vals.ref1 r]
  obtain ⟨as, ra⟩ := Dp.readsAll I (d :: ds) _ its hd rv
  refine PySem.W.min_list_data (I.ok.hd hc) hl.isList (by simpa using ra) hal (by omega) fun i v h' tk bs hv hr hk => ?_
  obtain ⟨x, hx, rx, he⟩ := best_at I hd rv hcl (by simpa using hv) hr (fold_mem ds d) hk
  exact ⟨x, H, I.kept (t' := tk) hk, rx, q i x hx he⟩
theorem cr_maxD (hc : X.calm = true) (hu : X.A.units + 200 < cLine) : CallR X (.builtin "max") (rBestD X.K PySem.W.maxD) := by
  intro pins s σ H vs us Q I r h
  obtain ⟨a, xs, d, ds, rfl, hs, hd, hal, hcl, hdp, q⟩ := h
  obtain ⟨its, rv, hl, hz⟩ := I.list hs
  rw [Vals.ref1 r]
  obtain ⟨as, ra⟩ := Dp.readsAll I (d :: ds) _ its hd rv
  refine PySem.W.max_list_data (I.ok.hd hc) hl.isList (by simpa using ra) hal (by omega) fun i v h' tk bs hv hr hk => ?_
  obtain ⟨x, hx, rx, he⟩ := best_at I hd rv hcl (by simpa using hv) hr (fold_mem ds d) hk
  exact ⟨x, H, I.kept (t' := tk) hk, rx, q i x hx he⟩
def bestD (best : PyData → List PyData → PyData) : List PyData → T AV := one1 fun d => match d with
  | .list (d :: ds) => if ((alikeB (d :: ds) && (d :: ds).all fun e => !isNone e) && (PyData.canLayAll0 (d :: ds) && decide (PyData.depthAll (d :: ds) ≤ 64))) = true then .ret (.sh (best d ds)) else .err
  | _ => .err
theorem ok_best {best : PyData → List PyData → PyData} : CallOk Tb B X.K (rBestD X.K best) (bestD best) := call1 fun W F ρ σ H v d Q s a q => by
  cases d with
  | list es => cases es with
    | nil => exact q.elim
    | cons d ds =>
      obtain ⟨p, vs, rfl, h1, hz, h2⟩ := a.list
      obtain ⟨hb, q⟩ := hold_if q
      obtain ⟨b1, b2⟩ := and2 hb
      obtain ⟨b3, b4⟩ := and2 b1
      obtain ⟨b5, b6⟩ := and2 b2
      refine ⟨p, vs, d, ds, rfl, h1, dpAll_le s.w.fz _ _ h2, ⟨fun x hx y hy => alikeB_ok b3 x hx y hy, fun x hx z => ?_⟩, b5, of_decide_eq_true b6, fun i v hv he => ?_⟩
      · subst z
        have := List.all_eq_true.mp b4 _ hx
        cases this
      · obtain ⟨w, hw, hd⟩ := DpAll.get h2 he
        rw [hv] at hw
        cases hw
        exact q W H v (Ext.refl _) s hd
  | _ => exact q.elim
/-! ### repr -/
def rReprD (K : PySem.W.Frag) : List V → Hp → VK → Prop := fun vs H Q => ∃ (a : Addr) (d : PyData), vs = [.ref a] ∧ Dp K H (.ref a) d ∧ d.showable = true ∧ d.hasDict = false ∧ d.depth ≤ 64 ∧ d.shown.length ≤ sizeLine ∧ Q (.str d.shown) H
theorem cr_reprD (hg : X.A.guards = some []) (hu : X.A.units + 200 < cLine) : CallR X (.builtin "repr") (rReprD X.K) := by
  intro pins s σ H vs us Q I r h
  obtain ⟨a, d, rfl, hd, hs, hh, hdp, hz, q⟩ := h
  rw [Vals.ref1 r]
  obtain ⟨as, ra⟩ := Dp.reads I d _ (.ref a) hd rfl
  exact repr_of_reads' ra hs (fun z => by rw [hh] at z; cases z) hg (by omega) (fun _ _ h => h) (fun h' u tk hk => ⟨.str d.shown, H, I.kept (t' := tk) hk, ⟨u, rfl⟩, q⟩) hz
def isRef : PyData → Bool
  | .list _ => true
  | .tuple _ => true
  | _ => false
def reprD : List PyData → T AV := one1 fun d => if ((isRef d && d.showable) && ((!d.hasDict && decide (d.depth ≤ 64)) && decide (d.shown.length ≤ sizeLine))) = true then .ret (.sh (.str d.shown)) else .err
theorem ok_repr : CallOk Tb B X.K (rReprD X.K) reprD := call1 fun W F ρ σ H v d Q s a q => by
  obtain ⟨hb, q⟩ := hold_if q
  obtain ⟨b1, b2⟩ := and2 hb
  obtain ⟨b3, b4⟩ := and2 b1
  obtain ⟨b5, b6⟩ := and2 b2
  obtain ⟨b7, b8⟩ := and2 b5
  have hv : ∃ p, v = .ref p := by
    cases d with
    | list es => obtain ⟨p, vs, h, _⟩ := a.list; exact ⟨p, h⟩
    | tuple es => obtain ⟨p, vs, h, _⟩ := Rb.tup s.w a; exact ⟨p, h⟩
    | _ => cases b3
  obtain ⟨p, rfl⟩ := hv
  exact ⟨p, d, rfl, a.dp s.w, b4, by simpa using b7, of_decide_eq_true b8, of_decide_eq_true b6, q W H _ (Ext.refl _) s (.str _)⟩
/-! ### slices -/
def cutD (ds : List PyData) (lo hi : Option Int) : List PyData := (ds.drop (HT.sIx ds.length 0 lo)).take (HT.sIx ds.length ds.length hi - HT.sIx ds.length 0 lo)
def slD (d : PyData) (lo hi : Option Int) : T AV := match d with
  | .list ds => .ret (.own (cutD ds lo hi))
  | .tuple ds => .ret (.sh (.tuple (cutD ds lo hi)))
  | _ => .err
theorem SlR.or {r r' : V → Option Int → Option Int → Hp → VK → Prop} (h : SlR X r) (h' : SlR X r') : SlR X fun x lo hi H Q => r x lo hi H Q ∨ r' x lo hi H Q :=
  fun pins s σ H x v vl vu lo hi sl Q I a b c d z => z.elim (h pins s σ H x v vl vu lo hi sl Q I a b c d) (h' pins s σ H x v vl vu lo hi sl Q I a b c d)
theorem cut_len {α : Type} (l : List α) (a b : Nat) : ((l.drop a).take b).length ≤ l.length := by simp; omega
theorem sl_read {K : PySem.W.Frag} {W : Wd} {F H : Hp} {ρ : Env} {σ : L2.St} {Q : VK} {v : V} {d : PyData} {lo hi : Option Int} (s : Sim K Tb B W F ρ σ H) (a : Rb K W H v d) (q : Hold (slD d lo hi) (RPost K Tb B W F ρ σ Q)) : rSlL K v lo hi H Q ∨ rSlA K v lo hi H Q := by
  cases d with
  | list ds =>
    obtain ⟨p, vs, rfl, h1, hz, h2⟩ := a.list
    refine .inl ⟨p, vs, rfl, h1, s.mkL (ds := cutD ds lo hi) ?_ (Nat.le_trans (cut_len _ _ _) hz) q⟩
    unfold cutV cutD
    rw [DpAll.len h2]
    exact DpAll.take _ (DpAll.drop _ h2)
  | tuple ds =>
    obtain ⟨p, vs, rfl, h0, h1, hz, h2⟩ := Rb.tup s.w a
    have hc : DpAll K W.Φ (cutV vs lo hi) (cutD ds lo hi) := by
      unfold cutV cutD
      rw [DpAll.len h2]
      exact DpAll.take _ (DpAll.drop _ h2)
    refine .inr ⟨p, vs, rfl, h1, fun e => ?_, fun _ => s.mkT hc (Nat.le_trans (cut_len _ _ _) hz) q⟩
    have : cutD ds lo hi = ds := by
      unfold cutD
      rw [DpAll.len h2] at e
      rw [e.1, e.2, List.drop_zero, Nat.sub_zero, List.take_length]
    have q : RPost K Tb B W F ρ σ Q (.sh (.tuple (cutD ds lo hi))) := q
    rw [this] at q
    exact q W H _ (Ext.refl _) s (.tup h0 h2)
  | _ => exact q.elim
theorem pd_slice {e : Expr} {lo hi : Option Expr} {f : Env → T PyData} {fl fh : Env → T (Option Int)} {pos p2 : Pos} (he : PB Tb B X e f) (hl : PO X lo (ro (Tb := Tb) (B := B) X.K fl)) (hh : PO X hi (ro (Tb := Tb) (B := B) X.K fh)) :
    PD Tb B X (.Subscript e (.Slice lo hi none p2) pos) fun ρ => (f ρ).bind fun d => (fl ρ).bind fun l => (fh ρ).bind fun h => slD d l h := by
  refine PE.weaken (pe_slice (SlR.or sl_list sl_tupA) he hl hh) fun σ H Q ⟨W, F, ρ, s, q⟩ => ⟨W, F, ρ, s, (Hold.bind q).mono fun d z W1 H1 v e1 s1 r1 => ?_⟩
  refine ⟨W1, F, ρ, s1, (Hold.bind z).mono fun l z W2 H2 e2 s2 => ⟨W2, F, ρ, s2, (Hold.bind z).mono fun h z W3 H3 e3 s3 => ?_⟩⟩
  exact sl_read s3 (r1 W3 F H3 (e2.trans e3) s3) (z.mono fun av => RPost.ext ((e1.trans e2).trans e3))
/-! ### list(range(..)), tuple(range(..)) -/
theorem rg_data {K : PySem.W.Frag} {H : Hp} (a b : Int) : DpAll K H (rgV a b) (upFrom a (b - a).toNat) := by
  unfold rgV upFrom
  refine DpAll.of (by simp) fun i v d h1 h2 => ?_
  rw [List.getElem?_map] at h1 h2
  cases e : (List.range (b - a).toNat)[i]? with
  | none => rw [e] at h1; cases h1
  | some j =>
    rw [e] at h1 h2
    cases h1
    cases h2
    exact .int _
theorem RgOk.of_le' {j : Int} (h : -100000 ≤ j ∧ j ≤ 100000) : RgOk 0 j := ⟨by omega, by omega, by omega, by omega, by omega⟩
def rgD (mk : List PyData → AV) : PyData → T AV
  | .int j => if -100000 ≤ j ∧ j ≤ 100000 then .ret (mk (upFrom 0 j.toNat)) else .err
  | _ => .err
theorem pd_listRg {a : Expr} {f : Env → T PyData} {p pr pos posr : Pos} (hc : X.calm = true) (hg : Gl X "list") (hm : X.mg "list" = none) (hgr : Gl X "range") (hmr : X.mg "range" = none) (ha : PB Tb B X a f)
    (na : starEach [.Call (.Name "range" pr) [a] [] posr] X.env = (false, eval (.Call (.Name "range" pr) [a] [] posr) X.env) :: starEach [] X.env := by rfl) (nr : starEach [a] X.env = (false, eval a X.env) :: starEach [] X.env := by rfl) :
    PD Tb B X (.Call (.Name "list" p) [.Call (.Name "range" pr) [a] [] posr] [] pos) fun ρ => (f ρ).bind (rgD .own) := by
  refine PE.weaken (pe_listRg hc hg hm (prg_1 hgr hmr ha nr) na) fun σ H Q ⟨W, F, ρ, s, q⟩ => ⟨W, F, ρ, s, (Hold.bind q).mono fun d z W1 H1 v e1 s1 r1 => ?_⟩
  cases d with
  | int j =>
    obtain ⟨hz, z⟩ := hold_if z
    refine ⟨j, (r1 W1 F H1 (Ext.refl _) s1).int, RgOk.of_le' hz, ?_⟩
    have hd : DpAll X.K W1.Φ (rgV 0 j) (upFrom 0 j.toNat) := by
      have := rg_data (K := X.K) (H := W1.Φ) 0 j
      rwa [show (j - 0).toNat = j.toNat by rw [Int.sub_zero]] at this
    have hl : (rgV 0 j).length ≤ sizeLine := by
      rw [rgV_length]
      have h1 : (100000 : Nat) ≤ sizeLine := by decide
      omega
    exact s1.mkL hd hl (RPost.ext e1 z)
  | _ => exact z.elim
end
end Dn
end
section
set_option Elab.async false
set_option linter.all false
set_option autoImplicit false
set_option maxRecDepth 100000
/-! Dn8: sets of numbers. -/
namespace Dn
open PySem PySem.Spec PyProof.Rows L2 LamX

/-! ### set(a list of numbers) -/
abbrev emptyS (w : World) : Obj := { cls := .type "set", dict := none, data := .set #[] 0 (.fresh 0 0 (!w.params.followText "set-order")) }
/-- what set.__init__ leaves -/
def SetLeft (w : World) (s : Shared) (ns : List Int) (s' : Shared) : Prop := ∃ h' tk c, s' = { s with heap := h', toks := tk } ∧ SetR w h' s.heap.objs.size (fun j => decide (j ∈ ns)) c ∧ ∀ b o, s.heap.get? b = some o → h'.get? b = some o
section
variable {P : Program} {w : World} {A : Around} {E : Value → Shared → Prop} {s : Shared}
set_option maxHeartbeats 1600000 in
theorem set_init_list {l : Addr} {items : Array Value} (ns : List Int) (hh : A.handled = none) (hl : s.heap.IsList l items) (hit : IntsAre items.toList ns) (hb : ns.length + 1 < scanBound) {Q : PySem.Fin → Shared → Prop} (hq : ∀ s', SetLeft w s ns s' → Q (.done (.ret .none)) s') :
    wpAny (model P w) A (Builtin.«set.__init__» ⟨[.ref s.heap.objs.size, .ref l], []⟩) Q E { s with heap := s.heap.push (emptyS w) } := by
  have hisz : items.size = ns.length := by
    have q := IntsAre.length hit
    rwa [Array.length_toList] at q
  have hS : (s.heap.push (emptyS w)).get? s.heap.objs.size = some (emptyS w) := Heap.get?_push_size _ rfl
  obtain ⟨⟨lc, ldict, ldata, lslots⟩, hol, hcl, nl, hdl⟩ := hl
  simp only at hcl hdl
  subst hcl hdl
  have hol' := Heap.get?_push_of_some (emptyS w) hol
  have ca := F.sub_list_set
  have cb := F.sub_list_frozenset
  have cc : (Value.type "list" == Value.type "dict") = false := by decide
  have hl1 : (s.heap.push (emptyS w)).IsList l items := ⟨_, hol', rfl, nl, rfl⟩
  have hT : Shared.TypeIs { s with heap := s.heap.push (emptyS w) } (.ref s.heap.objs.size) "set" := ⟨_, hS, rfl⟩
  unfold Builtin.«set.__init__» noKeywords Builtin.Frozenset.updateFrom
  generalize hPI : pyIter = PI
  wp_walk
  subst hPI
  refine wpAny_pyIter_list hl1 (wpAny_bind (wpAny_runValue ?_))
  have ltl : l < s.heap.objs.size := Heap.lt_size hol
  have sz : (s.heap.push (emptyS w)).objs.size = s.heap.objs.size + 1 := Heap.size_push ..
  have ne1 : l ≠ (s.heap.push (emptyS w)).objs.size := by
    rw [sz]
    exact Nat.ne_of_lt (Nat.lt_succ_of_lt ltl)
  have out : s.heap.objs.size ∉ [(s.heap.push (emptyS w)).objs.size, l] := by
    intro z
    rcases List.mem_cons.mp z with z | z
    · rw [sz] at z
      exact absurd z (by intro z; omega)
    · exact absurd (List.mem_singleton.mp z) (Nat.ne_of_gt ltl)
  refine set_update_ints ((Walks.list (by simp [hh]) _ l ne1 items).toS) s.heap.objs.size out ns hisz hb (fun i v hv => ?_) (items.size - 0) 0 _ (by omega) (Nat.zero_le _)
    ⟨⟨_, Heap.get?_push_size _ rfl, rfl, rfl⟩, hl1.push _⟩ ⟨0, Nat.le_refl 0, setR_new_at (Heap.get?_push_of_some _ hS)⟩ fun s' c' hm hc' hS' => ?_
  · have hi : i < ns.length := by rw [← hisz]; exact (Array.getElem?_eq_some_iff.mp hv).1
    obtain ⟨t, e⟩ := IntsAre.int_at hit i v (by rw [Array.getElem?_toList]; exact hv)
    exact ⟨ns[i], t, List.getElem?_eq_getElem hi, by rw [e, List.getD_eq_getElem?_getD, List.getElem?_eq_getElem hi] <;> rfl⟩
  obtain ⟨h', g2, d', tk', os'⟩ := s'
  obtain rfl : g2 = s.gens := hm.gens
  obtain rfl : d' = s.drawn := hm.drawn
  obtain rfl : os' = s.os := hm.os
  refine (wpAny_pure ?_ : wpAny (model P w) A (pure ()) (fun _ s' => wpAny (model P w) A (ret Value.none) Q E s') E _)
  refine wpAny_pure (hq _ ⟨h', tk', c', rfl, hS', fun b o e => ?_⟩)
  have hb0 : b < s.heap.objs.size := Heap.lt_size e
  refine hm.heap b o ?_ (Heap.get?_push_of_some _ (Heap.get?_push_of_some _ e))
  intro z
  rcases List.mem_cons.mp z with z | z
  · exact absurd z (Nat.ne_of_lt hb0)
  · have q := List.mem_singleton.mp z
    rw [sz] at q
    exact absurd q (Nat.ne_of_lt (Nat.lt_succ_of_lt hb0))
set_option maxHeartbeats 1600000 in
/-- set(l), with all that iteration asks -/
theorem set_of_list {l : Addr} {items : Array Value} (ns : List Int) {Q : Value → Shared → Prop} (hh : A.handled = none) (hl : s.heap.IsList l items) (hit : IntsAre items.toList ns) (hb : ns.length + 1 < scanBound)
    (h : ∀ s', SetLeft w s ns s' → Q (.ref s.heap.objs.size) s') : wpAny (model P w) A (call (.type "set") [.ref l]) Q E s := by
  have a1 := F.called_set.notType
  have a2 := F.called_set.canCreate
  have a3 := F.typeCall_set_1 (.ref l)
  have a4 := F.called_set.made
  have a5 := F.called_set.sub
  obtain ⟨mc, mt, a6⟩ := F.called_set.mro
  refine wpAny_call (codeAny_of_tree (?_ : wpAny _ _ (callAny (.type "set") _) _ _ _))
  refine wpAny_pure ⟨Code.quiet_builtin _ (by decide +kernel), codeAny_builtin F.entry_type_call ?_⟩
  rw [Around.under_plain (weight_type_call_type "set" [.ref l] []) rfl]
  repeat (any_goals (first | assumption | wp_step))
  refine codeAny_mono (code_set_led1 (.ref l) (E := E) (Q₁ := fun v s₁ => v = .ref s.heap.objs.size ∧ s₁ = { s with heap := s.heap.push (emptyS w) }) ⟨rfl, rfl⟩) fun r s₁ hr => ?_
  cases r with
  | error e => exact hr
  | ok fl => cases fl with
    | ret v =>
      obtain ⟨rfl, rfl⟩ := hr
      have hT : Shared.TypeIs { s with heap := s.heap.push (emptyS w) } (.ref s.heap.objs.size) "set" := ⟨_, Heap.get?_push_size _ rfl, rfl⟩
      have b1 := F.called_set.init.lookup
      have b2 := F.called_set.init.bind (.ref s.heap.objs.size)
      repeat (any_goals (first | assumption | wp_step))
      refine codeAny_mono (codeAny_call_builtin (R := wants (fun r s₂ => r = .none ∧ SetLeft w s ns s₂) E) F.called_set.init.plain F.entry_set_init (check_set_init_1 hT ?_)) fun r2 s2 hr2 => ?_
      · exact set_init_list ns (by first | exact hh | simp [hh]) hl hit hb fun s' left => ⟨rfl, left⟩
      · cases r2 with
        | error e => exact hr2
        | ok fl2 => cases fl2 with
          | ret r =>
            obtain ⟨rfl, left⟩ := hr2
            repeat (any_goals (first | assumption | wp_step))
            exact h _ left
          | _ => exact hr2.elim
    | _ => exact hr.elim
end
section
variable {X : Cx}
/-- the numbers of a list, each once -/
def nub (ns : List Int) : List Int := ns.foldl (fun l k => if l.contains k = true then l else l ++ [k]) []
theorem nub_go (ns : List Int) : ∀ l : List Int, l.Nodup → (ns.foldl (fun l k => if l.contains k = true then l else l ++ [k]) l).Nodup ∧ ∀ j, j ∈ ns.foldl (fun l k => if l.contains k = true then l else l ++ [k]) l ↔ j ∈ l ∨ j ∈ ns := by
  induction ns with
  | nil => exact fun l h => ⟨h, fun j => by simp⟩
  | cons k ns ih =>
    intro l h
    rw [List.foldl_cons]
    by_cases hk : l.contains k = true
    · rw [if_pos hk]
      have hm : k ∈ l := by simpa using hk
      refine ⟨(ih l h).1, fun j => ?_⟩
      rw [(ih l h).2 j, List.mem_cons]
      constructor
      · rintro (q | q)
        · exact .inl q
        · exact .inr (.inr q)
      · rintro (q | q | q)
        · exact .inl q
        · exact .inl (q ▸ hm)
        · exact .inr q
    · rw [if_neg hk]
      have hm : k ∉ l := by simpa using hk
      have h2 : (l ++ [k]).Nodup := List.nodup_append.mpr ⟨h, by simp, fun a ha b hb => by
        rw [List.mem_singleton] at hb
        subst hb
        exact fun e => hm (e ▸ ha)⟩
      refine ⟨(ih _ h2).1, fun j => ?_⟩
      rw [(ih _ h2).2 j, List.mem_append, List.mem_singleton, List.mem_cons, or_assoc]
theorem nub_nodup (ns : List Int) : (nub ns).Nodup := (nub_go ns [] List.nodup_nil).1
theorem mem_nub {ns : List Int} {j : Int} : j ∈ nub ns ↔ j ∈ ns := by
  have q := (nub_go ns [] List.nodup_nil).2 j
  rw [List.mem_nil_iff, false_or] at q
  exact q
theorem SetR.count {w : World} {h : Heap} {a : Addr} {ns : List Int} {c : Nat} (R : SetR w h a (fun j => decide (j ∈ ns)) c) : c = (nub ns).length := by
  obtain ⟨o, es, ep, t, _, _, _, _, hn, hm, _, _, hc, _, _⟩ := R
  have e1 : (es.toList.map keyOf).length = (nub ns).length := by
    refine List.Perm.length_eq ((List.perm_ext_iff_of_nodup hn (nub_nodup ns)).mpr fun k => ?_)
    rw [mem_nub, ← hm k, decide_eq_true_iff]
  rw [← hc, ← e1, List.length_map, Array.length_toList]
/-- set(xs) of a list of numbers -/
def rSetI (K : PySem.W.Frag) (w : World) : List V → Hp → VK → Prop := fun vs H Q => ∃ (l : Addr) (ns : List Int), vs = [.ref l] ∧ SqL K H l (ns.map V.int) ∧ ns.length ≤ 1000 ∧ ∀ p, H p = none → Q (.ref p) (upd H p (SetO w p (fun j => decide (j ∈ ns)) (nub ns).length))
theorem cr_setI (hc : X.calm = true) : CallR X (.type "set") (rSetI X.K X.w) := by
  intro pins s σ H vs us Q I r h
  obtain ⟨l, ns, rfl, hs, hl, q⟩ := h
  obtain ⟨its, rv, pl, hz⟩ := I.list hs
  rw [Vals.ref1 r]
  refine set_of_list ns (I.ok.hd hc) pl.isList (by simpa using ints_of_vals rv) (by unfold scanBound; omega) fun s' ⟨h', tk, c, e, R, k⟩ => ?_
  subst e
  have ec := SetR.count R
  subst ec
  have hn : H s.heap.objs.size = none := I.hok.fresh (Nat.le_refl _)
  exact ⟨.ref _, _, Inv.laid (t' := tk) I k (Nat.le_refl _) (setO_new R), rfl, q _ hn⟩
/-- len(a set) -/
def rLenSet (w : World) : List V → Hp → VK → Prop := fun vs H Q => ∃ (a : Addr) (S : Int → Bool) (n : Nat), vs = [.ref a] ∧ H a = some (SetO w a S n) ∧ n ≤ 100000 ∧ Q (.int (n : Nat)) H
theorem cr_lenSet : CallR X (.builtin "len") (rLenSet X.w) := by
  intro pins s σ H vs us Q I r h
  obtain ⟨a, S, n, rfl, ha, hn, q⟩ := h
  have R := setO_get I ha
  rw [Vals.ref1 r]
  obtain ⟨o, es, ep, t, ho, hex, hd, _, _, _, _, hf, hc, _, _⟩ := R
  exact call_len_set ho hex hd hf (by rw [hc]; omega) ⟨.int n, H, I.tok _, ⟨_, by rw [hc]⟩, q⟩
end
section
variable {Tb : List (Addr × Str)} {B : Wd → V → (List PyData → T PyData) → Prop} {X : Cx}
/-- f(set(e)) of a list of numbers -/
def setI (g : List Int → T AV) : PyData → T AV
  | .list ds => optT (intsOf ds) fun ns => if ns.length ≤ 1000 then g ns else .err
  | _ => .err
theorem setI_read {K : PySem.W.Frag} {w : World} {W : Wd} {F H : Hp} {ρ : Env} {σ : L2.St} {Q : VK} {v : V} {d : PyData} {g : List Int → T AV} (s : Sim K Tb B W F ρ σ H) (a : Rb K W H v d) (q : Hold (setI g d) (RPost K Tb B W F ρ σ Q))
    {R : VK} (h : ∀ ns p, H p = none → ns.length ≤ 1000 → Hold (g ns) (RPost K Tb B W F ρ σ Q) → Sim K Tb B W F ρ σ (upd H p (SetO w p (fun j => decide (j ∈ ns)) (nub ns).length)) → R (.ref p) (upd H p (SetO w p (fun j => decide (j ∈ ns)) (nub ns).length))) : rSetI K w [v] H R := by
  cases d with
  | list ds =>
    obtain ⟨ns, e, q⟩ := hold_opt (o := intsOf ds) q
    obtain ⟨hl, q⟩ := hold_if q
    obtain ⟨p, vs, rfl, h1, hz, h2⟩ := a.list
    rw [(ints_vals h2 e).1] at h1
    exact ⟨p, ns, rfl, h1, hl, fun p hp => h ns p hp hl q (s.laid hp)⟩
  | _ => exact q.elim
theorem nub_le0 (ns : List Int) : ∀ l : List Int, (ns.foldl (fun l k => if l.contains k = true then l else l ++ [k]) l).length ≤ l.length + ns.length := by
  induction ns with
  | nil => exact fun l => Nat.le_refl _
  | cons k ns ih =>
    intro l
    rw [List.foldl_cons, List.length_cons]
    have q := ih (if l.contains k = true then l else l ++ [k])
    split at q
    · rename_i h
      rw [if_pos h]
      omega
    · rename_i h
      rw [if_neg h]
      rw [List.length_append, List.length_singleton] at q
      omega
theorem nub_le (ns : List Int) : (nub ns).length ≤ ns.length := by
  have q := nub_le0 ns []
  rw [List.length_nil, Nat.zero_add] at q
  exact q
def lenSetD : PyData → T AV := setI fun ns => .ret (.sh (.int ((nub ns).length : Nat)))
def sortSetD : PyData → T AV := setI fun ns => if (nub ns).length < 64 then .ret (.own (((nub ns).mergeSort fun a b => decide (a ≤ b)).map PyData.int)) else .err
variable {e : Expr} {f : Env → T PyData} {p1 p2 pos pos2 : Pos}
theorem pd_lenSet (hc : X.calm = true) (hg : Gl X "len") (hm : X.mg "len" = none) (hg2 : Gl X "set") (hm2 : X.mg "set" = none) (he : PB Tb B X e f)
    (h1 : starEach [.Call (.Name "set" p2) [e] [] pos2] X.env = (false, eval (.Call (.Name "set" p2) [e] [] pos2) X.env) :: starEach [] X.env := by rfl) (h2 : starEach [e] X.env = (false, eval e X.env) :: starEach [] X.env := by rfl) :
    PD Tb B X (.Call (.Name "len" p1) [.Call (.Name "set" p2) [e] [] pos2] [] pos) fun ρ => (f ρ).bind lenSetD := by
  refine PE.weaken (pe_callB cr_lenSet hg hm boot_len (pa_cons (pe_callTy (cr_setI hc) hg2 hm2 boot_set (pa_cons he pa_nil h2) (by decide) (by decide) h2) pa_nil h1) (by decide) (by decide) h1) fun σ H Q ⟨W, F, ρ, s, q⟩ => ?_
  refine ⟨W, F, ρ, s, (Hold.bind q).mono fun d z W1 H1 v e1 s1 r1 => ?_⟩
  show rSetI X.K X.w [v] H1 fun x H2 => rLenSet X.w [x] H2 Q
  refine setI_read (w := X.w) s1 (r1 W1 F H1 (Ext.refl _) s1) (z.mono fun av => RPost.ext e1) fun ns p hp hl q s2 => ?_
  have hn := nub_le ns
  exact ⟨p, _, _, rfl, upd_same, by omega, q W1 _ _ (Ext.refl _) s2 (.int _)⟩
theorem sorted_nub {ns ms : List Int} (h : ms.Pairwise (· < ·)) (hm : ∀ k : Int, k ∈ ms ↔ decide (k ∈ ns) = true) : ms = (nub ns).mergeSort fun a b => decide (a ≤ b) := by
  have hp : ms.Perm (nub ns) := (List.perm_ext_iff_of_nodup (h.imp fun {a b} hab e => by omega) (nub_nodup ns)).mpr fun k => by rw [mem_nub, hm, decide_eq_true_iff]
  refine List.Perm.eq_of_pairwise (le := fun a b => decide (a ≤ b) = true) (fun a b _ _ x y => by simp at x y; omega) (h.imp fun {a b} hab => by simp; omega) (List.pairwise_mergeSort (fun a b c x y => by simp at x y ⊢; omega) (fun a b => by simp; omega) _) (hp.trans (List.mergeSort_perm _ _).symm)
theorem pd_sortSet (hc : X.calm = true) (hg : Gl X "sorted") (hm : X.mg "sorted" = none) (hg2 : Gl X "set") (hm2 : X.mg "set" = none) (he : PB Tb B X e f)
    (h1 : starEach [.Call (.Name "set" p2) [e] [] pos2] X.env = (false, eval (.Call (.Name "set" p2) [e] [] pos2) X.env) :: starEach [] X.env := by rfl) (h2 : starEach [e] X.env = (false, eval e X.env) :: starEach [] X.env := by rfl) :
    PD Tb B X (.Call (.Name "sorted" p1) [.Call (.Name "set" p2) [e] [] pos2] [] pos) fun ρ => (f ρ).bind sortSetD := by
  refine PE.weaken (pe_callB (cr_sortedSet hc) hg hm boot_sorted (pa_cons (pe_callTy (cr_setI hc) hg2 hm2 boot_set (pa_cons he pa_nil h2) (by decide) (by decide) h2) pa_nil h1) (by decide) (by decide) h1) fun σ H Q ⟨W, F, ρ, s, q⟩ => ?_
  refine ⟨W, F, ρ, s, (Hold.bind q).mono fun d z W1 H1 v e1 s1 r1 => ?_⟩
  show rSetI X.K X.w [v] H1 fun x H2 => rSortedSet X.w [x] H2 Q
  refine setI_read (w := X.w) s1 (r1 W1 F H1 (Ext.refl _) s1) (z.mono fun av => RPost.ext e1) fun ns p hp hl q s2 => ?_
  obtain ⟨hn, q⟩ := hold_if q
  refine ⟨p, _, _, rfl, upd_same, hn, fun ms p2 hs hm hle hp2 => ?_⟩
  have em := sorted_nub hs hm
  subst em
  have hs : (64 : Nat) ≤ sizeLine := by decide
  exact s2.mkL (DpAll.ints _) (by rw [List.length_map, hle]; omega) q p2 hp2
end
end Dn
end
section
set_option Elab.async false
set_option linter.all false
set_option autoImplicit false
set_option maxRecDepth 100000
/-! Dn9: expressions that change own lists; methods; zip. -/
namespace Dn
open PySem PySem.Spec PyProof.Rows L2 LamX

section
variable (K : PySem.W.Frag) (Tb : List (Addr × Str)) (B : Wd → V → (List PyData → T PyData) → Prop)
/-- a reading that changes own lists -/
def rx (den : Env → T (PyData × Env)) : TE := fun σ H Q => ∃ W F ρ, Sim K Tb B W F ρ σ H ∧ Hold (den ρ) fun p => ∀ W' H' v, Ext W W' → Sim K Tb B W' F p.2 σ H' → Dp K W'.Φ v p.1 → Q v H'
end
abbrev PXD (Tb : List (Addr × Str)) (B : Wd → V → (List PyData → T PyData) → Prop) (X : Cx) (e : Expr) (den : Env → T (PyData × Env)) : Prop := PE X e (rx X.K Tb B den)
section
variable {Tb : List (Addr × Str)} {B : Wd → V → (List PyData → T PyData) → Prop} {X : Cx}
theorem pxd_of {e : Expr} {f : Env → T AV} (h : PD Tb B X e f) : PXD Tb B X e fun ρ => (f ρ).bind fun av => (toS av).bind fun d => .ret (d, ρ) :=
  PE.weaken h fun σ H Q ⟨W, F, ρ, s, q⟩ => ⟨W, F, ρ, s, (Hold.bind q).mono fun av z => RPost.shd ((Hold.bind z).mono fun d z => z)⟩
/-- the own list in slot i -/
def ownAt {α : Type} (i : Nat) (ρ : Env) (f : List PyData → T α) : T α := match ρ[i]? with
  | some (.own ds) => f ds
  | _ => .err
theorem hold_own {α : Type} {i : Nat} {ρ : Env} {f : List PyData → T α} {p : α → Prop} (h : Hold (ownAt i ρ f) p) : ∃ ds, ρ[i]? = some (.own ds) ∧ Hold (f ds) p := by
  unfold ownAt at h
  cases e : ρ[i]? with
  | none => rw [e] at h; exact h.elim
  | some av =>
    rw [e] at h
    cases av with
    | own ds => exact ⟨ds, rfl, h⟩
    | _ => exact h.elim
variable {i : Nat} {o e : Expr} {apos cpos pos : Pos}
theorem own_ty {K : PySem.W.Frag} {H : Hp} {a : Addr} {vs : List V} (h : H a = some (.lst vs)) : tyV K "list" (.ref a) H := Or.inl ⟨rfl, _, Or.inl (Or.inl h)⟩
/-- x.pop(e) -/
def popD (i : Nat) (f : Env → T PyData) (ρ : Env) : T (PyData × Env) := ownAt i ρ fun ds => (f ρ).bind fun d => match d with
  | .int k => match seqIndex? k ds.length with
    | some j => match ds[j]? with
      | some y => if -(2 ^ 63) ≤ k ∧ k < 2 ^ 63 then .ret (y, ρ.set i (.own (ds.eraseIdx j))) else .err
      | none => .err
    | none => .err
  | _ => .err
theorem pxd_pop {f : Env → T PyData} (ho : PE X o (tVar i)) (he : PB Tb B X e f) (hbase : attributeBase o "pop" X.env (eval o X.env) = eval o X.env := by rfl)
    (hfew : ((backTo cpos (starEach [e] X.env)).all (fun x => !x.1) && (backToKw cpos (keywordEach [] X.env)).all (fun x => x.1.isSome) && decide ([e].length + ([] : List Keyword).length + (if ([] : List Keyword).isEmpty then 0 else 1) < 30)) = true := by rfl)
    (hline : (apos.endLine == cpos.line) = true := by rfl) (hs : starEach [e] X.env = (false, eval e X.env) :: starEach [] X.env := by rfl) (hplain : (backTo cpos (starEach [] X.env)).any (·.1) = false := by rfl) :
    PXD Tb B X (.Call (.Attribute o "pop" apos) [e] [] cpos) (popD i f) := by
  refine PE.weaken (pe_bm PySem.F.plainAttrs_list PySem.F.slot_list_pop PySem.F.type_list_pop mt_popAt ho (pa_cons he pa_nil hs) hbase hfew hline hs hplain) fun σ H Q ⟨W, F, ρ, s, q⟩ => ?_
  obtain ⟨ds, ei, q⟩ := hold_own q
  obtain ⟨a, vs, h1, h2, _⟩ := s.s.own i ds ei
  refine ⟨.ref a, h1, own_ty h2, W, F, ρ, s, (Hold.bind q).mono fun d z W1 H1 v e1 s1 r1 => ?_⟩
  obtain ⟨a', vs', g1, g2, gz, _, _, _, g6⟩ := s1.s.own i ds ei
  rw [h1] at g1
  cases g1
  cases d with
  | int k =>
    have hl := DpAll.len g6
    cases ek : seqIndex? k ds.length with
    | none => simp only [ek] at z; exact z.elim
    | some j =>
      simp only [ek] at z
      cases ey : ds[j]? with
      | none => simp only [ey] at z; exact z.elim
      | some y =>
        simp only [ey] at z
        obtain ⟨hk, z⟩ := hold_if z
        obtain ⟨u, hu, hd⟩ := DpAll.get g6 ey
        refine ⟨a, vs', k, j, u, rfl, by rw [(r1 W1 F H1 (Ext.refl _) s1).int], g2, hk.1, hk.2, by rw [hl]; exact ek, hu, ?_⟩
        have hz : (vs'.eraseIdx j).length ≤ sizeLine := Nat.le_trans (List.length_eraseIdx_le _ _) gz
        exact z W1 _ u e1 (s1.mut ei h1 hz (DpAll.erase j g6)) hd
  | _ => exact z.elim
/-- x.pop() -/
def pop0D (i : Nat) (ρ : Env) : T (PyData × Env) := ownAt i ρ fun ds => match ds[ds.length - 1]? with
  | some y => .ret (y, ρ.set i (.own ds.dropLast))
  | none => .err
theorem pxd_pop0 (ho : PE X o (tVar i)) (hbase : attributeBase o "pop" X.env (eval o X.env) = eval o X.env := by rfl) (hline : (apos.endLine == cpos.line) = true := by rfl) : PXD Tb B X (.Call (.Attribute o "pop" apos) [] [] cpos) (pop0D i) := by
  refine PE.weaken (pe_bm0 PySem.F.plainAttrs_list PySem.F.slot_list_pop PySem.F.type_list_pop mt_pop ho hbase hline) fun σ H Q ⟨W, F, ρ, s, q⟩ => ?_
  obtain ⟨ds, ei, q⟩ := hold_own q
  obtain ⟨a, vs, h1, h2, gz, _, _, _, g6⟩ := s.s.own i ds ei
  cases ey : ds[ds.length - 1]? with
  | none => simp only [ey] at q; exact q.elim
  | some y =>
    simp only [ey] at q
    have hl := DpAll.len g6
    obtain ⟨u, hu, hd⟩ := DpAll.get g6 ey
    refine ⟨.ref a, h1, own_ty h2, a, vs, u, rfl, rfl, h2, by rw [hl]; exact hu, ?_⟩
    have hz : vs.dropLast.length ≤ sizeLine := by rw [List.length_dropLast]; omega
    have hd2 : DpAll X.K W.Φ vs.dropLast ds.dropLast := by
      rw [List.dropLast_eq_take, List.dropLast_eq_take, hl]
      exact DpAll.take _ g6
    exact q W _ u (Ext.refl _) (s.mut ei h1 hz hd2) hd
/-- x.append(e) -/
def appD (i : Nat) (f : Env → T (PyData × Env)) (ρ : Env) : T Out := ownAt i ρ fun _ => (f ρ).bind fun p => ownAt i p.2 fun ds => if ds.length < 1000000 then .ret (.nx (p.2.set i (.own (ds ++ [p.1])))) else .err
theorem psd_append {f : Env → T (PyData × Env)} (ho : PE X o (tVar i)) (he : PXD Tb B X e f) (hbase : attributeBase o "append" X.env (eval o X.env) = eval o X.env := by rfl)
    (hfew : ((backTo cpos (starEach [e] X.env)).all (fun x => !x.1) && (backToKw cpos (keywordEach [] X.env)).all (fun x => x.1.isSome) && decide ([e].length + ([] : List Keyword).length + (if ([] : List Keyword).isEmpty then 0 else 1) < 30)) = true := by rfl)
    (hline : (apos.endLine == cpos.line) = true := by rfl) (hs : starEach [e] X.env = (false, eval e X.env) :: starEach [] X.env := by rfl) (hplain : (backTo cpos (starEach [] X.env)).any (·.1) = false := by rfl)
    (hsw : swapsWith (.Call (.Attribute o "append" apos) [e] [] cpos) none pos.line X.env = pure false := by rfl) :
    PSD Tb B X (.Expr (.Call (.Attribute o "append" apos) [e] [] cpos) pos) (appD i f) := by
  refine PS.weaken (ps_expr (pe_bm PySem.F.plainAttrs_list PySem.F.slot_list_append PySem.F.type_list_append mt_append ho (pa_cons he pa_nil hs) hbase hfew hline hs hplain) hsw) fun D σ H ⟨W, F, ρ, s, q⟩ => ?_
  obtain ⟨ds0, ei0, q⟩ := hold_own q
  obtain ⟨a, vs, h1, h2, _⟩ := s.s.own i ds0 ei0
  refine ⟨.ref a, h1, own_ty h2, W, F, ρ, s, (Hold.bind q).mono fun p z W1 H1 v e1 s1 hv => ?_⟩
  obtain ⟨ds, ei, z⟩ := hold_own z
  obtain ⟨hz, z⟩ := hold_if z
  obtain ⟨a', vs', g1, g2, gz, _, _, _, g6⟩ := s1.s.own i ds ei
  rw [h1] at g1
  cases g1
  have hl := DpAll.len g6
  have hs : (1000000 : Nat) ≤ sizeLine := by decide
  exact ⟨a, vs', v, rfl, rfl, g2, by omega, z W1 _ _ e1 (s1.mut ei h1 (by rw [List.length_append, List.length_singleton]; omega) (DpAll.app g6 (DpAll.one hv)))⟩
/-- x.extend(e), e a new list -/
def extD (i : Nat) (f : Env → T AV) (ρ : Env) : T Out := ownAt i ρ fun ds => (f ρ).bind fun av => match av with
  | .own es => if ds.length + es.length ≤ 1000000 then .ret (.nx (ρ.set i (.own (ds ++ es)))) else .err
  | _ => .err
theorem psd_extend {f : Env → T AV} (ho : PE X o (tVar i)) (he : PD Tb B X e f) (hbase : attributeBase o "extend" X.env (eval o X.env) = eval o X.env := by rfl)
    (hfew : ((backTo cpos (starEach [e] X.env)).all (fun x => !x.1) && (backToKw cpos (keywordEach [] X.env)).all (fun x => x.1.isSome) && decide ([e].length + ([] : List Keyword).length + (if ([] : List Keyword).isEmpty then 0 else 1) < 30)) = true := by rfl)
    (hline : (apos.endLine == cpos.line) = true := by rfl) (hs : starEach [e] X.env = (false, eval e X.env) :: starEach [] X.env := by rfl) (hplain : (backTo cpos (starEach [] X.env)).any (·.1) = false := by rfl)
    (hsw : swapsWith (.Call (.Attribute o "extend" apos) [e] [] cpos) none pos.line X.env = pure false := by rfl) :
    PSD Tb B X (.Expr (.Call (.Attribute o "extend" apos) [e] [] cpos) pos) (extD i f) := by
  refine PS.weaken (ps_expr (pe_bm PySem.F.plainAttrs_list PySem.F.slot_list_extend PySem.F.type_list_extend mt_extend ho (pa_cons he pa_nil hs) hbase hfew hline hs hplain) hsw) fun D σ H ⟨W, F, ρ, s, q⟩ => ?_
  obtain ⟨ds, ei, q⟩ := hold_own q
  obtain ⟨a, vs, h1, h2, _⟩ := s.s.own i ds ei
  refine ⟨.ref a, h1, own_ty h2, W, F, ρ, s, (Hold.bind q).mono fun av z => ?_⟩
  cases av with
  | own es =>
    intro W1 H1 b ws e1 hF s1 hwz hwd
    obtain ⟨hz, z⟩ := hold_if z
    obtain ⟨a', vs', g1, g2, gz, _, _, _, g6⟩ := s1.s.own i ds ei
    rw [h1] at g1
    cases g1
    have l1 := DpAll.len g6
    have l2 := DpAll.len hwd
    have hs : (1000000 : Nat) ≤ sizeLine := by decide
    refine ⟨a, b, vs', ws, rfl, rfl, g2, s1.w.fr b _ upd_same, by omega, ?_⟩
    have s2 := s1.mut ei h1 (vs' := vs' ++ ws) (by rw [List.length_append]; omega) (DpAll.app g6 hwd)
    exact z W1 _ _ e1 (s2.frame (upd_le hF))
  | _ => exact z.elim
/-- y = what changes own lists -/
def setXD (j : Nat) (f : Env → T (PyData × Env)) (ρ : Env) : T Out := (f ρ).bind fun p => .ret (.nx (p.2.set j (.sh p.1)))
theorem psd_setX {st : Stmt} {j : Nat} {f : Env → T (PyData × Env)} (h : PS X st (tAsg (rx X.K Tb B f) (gName j))) : PSD Tb B X st (setXD j f) := PS.weaken h fun D σ H ⟨W, F, ρ, s, q⟩ =>
  ⟨W, F, ρ, s, (Hold.bind q).mono fun p z W1 H1 v e1 s1 hv => z W1 _ H1 e1 (s1.set (av := .sh p.1) hv)⟩
/-! ### l.index(x) -/
def lstOf : PyData → Option (List PyData)
  | .list ds => some ds
  | _ => none
def indexL (ds : List PyData) (e : PyData) : T AV := if (okD (.list ds) && okD e) = true then optT (ds.findIdx? fun z => PyData.eqv z e) fun j => .ret (.sh (.int (j : Nat))) else .err
theorem list_ty {K : PySem.W.Frag} {H : Hp} {a : Addr} {vs : List V} (h : SqL K H a vs) : tyV K "list" (.ref a) H := Or.inl ⟨rfl, _, h⟩
theorem pd_index {f g : Env → T PyData} (hu : X.A.units + 200 < cLine) (ho : PB Tb B X o f) (he : PB Tb B X e g) (hbase : attributeBase o "index" X.env (eval o X.env) = eval o X.env := by rfl)
    (hfew : ((backTo cpos (starEach [e] X.env)).all (fun x => !x.1) && (backToKw cpos (keywordEach [] X.env)).all (fun x => x.1.isSome) && decide ([e].length + ([] : List Keyword).length + (if ([] : List Keyword).isEmpty then 0 else 1) < 30)) = true := by rfl)
    (hline : (apos.endLine == cpos.line) = true := by rfl) (hs : starEach [e] X.env = (false, eval e X.env) :: starEach [] X.env := by rfl) (hplain : (backTo cpos (starEach [] X.env)).any (·.1) = false := by rfl) :
    PD Tb B X (.Call (.Attribute o "index" apos) [e] [] cpos) fun ρ => (f ρ).bind fun d => optT (lstOf d) fun ds => (g ρ).bind fun e => indexL ds e := by
  refine PE.weaken (pe_bm PySem.F.plainAttrs_list PySem.F.slot_list_index PySem.F.type_list_index (mt_indexD (by omega)) ho (pa_cons he pa_nil hs) hbase hfew hline hs hplain) fun σ H Q ⟨W, F, ρ, s, q⟩ => ?_
  refine ⟨W, F, ρ, s, (Hold.bind q).mono fun d z W1 H1 v e1 s1 r1 => ?_⟩
  obtain ⟨ds, ed, z⟩ := hold_opt z
  cases d with
  | list ds =>
    cases ed
    have r := r1 W1 F H1 (Ext.refl _) s1
    obtain ⟨a, vs, rfl, h1, _, _⟩ := r.list
    refine ⟨list_ty h1, W1, F, ρ, s1, (Hold.bind z).mono fun y z W2 H2 u e2 s2 r2 => ?_⟩
    obtain ⟨hb, z⟩ := hold_if z
    obtain ⟨b1, b2⟩ := and2 hb
    obtain ⟨j, ej, z⟩ := hold_opt z
    obtain ⟨hj, hjt, hjf⟩ := List.findIdx?_eq_some_iff_getElem.mp ej
    refine ⟨a, u, y, ds, j, ds[j], rfl, rfl, (r1 W2 F H2 e2 s2).dp s2.w, (r2 W2 F H2 (Ext.refl _) s2).dp s2.w, b1, b2, List.getElem?_eq_getElem hj, hjt, fun m z' hm hz' => ?_, z W2 H2 _ (e1.trans e2) s2 (.int _)⟩
    obtain ⟨hm2, rfl⟩ := List.getElem?_eq_some_iff.mp hz'
    have := hjf m hm
    simpa using this
  | _ => cases ed
/-! ### zip, enumerate -/
def zipL (xs ys : List PyData) : List PyData := List.zipWith (fun x y => PyData.tuple [x, y]) xs ys
theorem zip_get {xs ys : List PyData} {i : Nat} {d : PyData} (h : (zipL xs ys)[i]? = some d) : ∃ x y, xs[i]? = some x ∧ ys[i]? = some y ∧ d = .tuple [x, y] := by
  unfold zipL at h
  rw [List.getElem?_zipWith] at h
  cases e1 : xs[i]? with
  | none => rw [e1] at h; cases h
  | some x => cases e2 : ys[i]? with
    | none => rw [e1, e2] at h; cases h
    | some y =>
      rw [e1, e2] at h
      exact ⟨x, y, rfl, rfl, (Option.some.inj h).symm⟩
theorem two_sz {x y : V} : [x, y].length ≤ sizeLine := by show 2 ≤ sizeLine; decide
/-- a pair laid while something is walked -/
theorem Sim.pair {K : PySem.W.Frag} {W : Wd} {F H : Hp} {ρ : Env} {σ : L2.St} {p : Addr} {x y : V} {d e : PyData} (s : Sim K Tb B W F ρ σ H) (hp : H p = none) (hx : Dp K W.Φ x d) (hy : Dp K W.Φ y e) :
    ∃ W', Ext W W' ∧ Sim K Tb B W' F ρ σ (upd H p (.tup [x, y])) ∧ Dp K W'.Φ (.ref p) (.tuple [d, e]) := by
  obtain ⟨W2, e2, s2, h2⟩ := s.made (o := .tup [x, y]) hp (by intro ps z; cases z) (by rintro xs (e | e | ⟨_, e⟩ | ⟨_, e⟩) <;> cases e; exact two_sz)
  exact ⟨W2, e2, s2, .tup (.inl (.inl h2)) (.cons (dp_le e2.φ _ _ hx) (.cons (dp_le e2.φ _ _ hy) .nil))⟩
theorem drives_zipL {K : PySem.W.Frag} {a b : Addr} {xs ys : List V} {ds es : List PyData} {W : Wd} {F H : Hp} (w : WOk Tb W F H) (h : SqL K W.Φ a xs) (hd : DpAll K W.Φ xs ds) (h' : SqL K W.Φ b ys) (hd' : DpAll K W.Φ ys es) : Drives K Tb B (Itz K a b) W (zipL ds es) := by
  have l1 := DpAll.len hd
  have l2 := DpAll.len hd'
  have hl : (zipL ds es).length = min ds.length es.length := List.length_zipWith
  have z1 := sqL_sz w h
  refine ⟨by omega, fun i W' F' H' hi e w' => ?_, fun W' F' H' e w' => ?_, fun i x H1 H2 d W' F' ρ σ hi e s hy => ?_⟩
  · obtain ⟨x, y, hx, hy, _⟩ := zip_get (List.getElem?_eq_getElem hi)
    obtain ⟨v, hv, _⟩ := DpAll.get hd hx
    obtain ⟨u, hu, _⟩ := DpAll.get hd' hy
    exact ⟨xs, ys, v, u, sqL_le w'.fz (sqL_le e.φ h), sqL_le w'.fz (sqL_le e.φ h'), hv, hu⟩
  · exact ⟨xs, ys, sqL_le w'.fz (sqL_le e.φ h), sqL_le w'.fz (sqL_le e.φ h'), by omega⟩
  · obtain ⟨p, v, u, rfl, hp, rfl, hx, hy⟩ := hy
    obtain ⟨dx, dy, gx, gy, rfl⟩ := zip_get hi
    have q1 := hx xs (sqL_le s.w.fz (sqL_le e.φ h))
    have q2 := hy ys (sqL_le s.w.fz (sqL_le e.φ h'))
    obtain ⟨v', hv, hvd⟩ := DpAll.get hd gx
    obtain ⟨u', hu, hud⟩ := DpAll.get hd' gy
    rw [q1] at hv; cases hv
    rw [q2] at hu; cases hu
    exact s.pair hp (dp_le e.φ _ _ hvd) (dp_le e.φ _ _ hud)
theorem drives_zipT {K : PySem.W.Frag} {a b : Addr} {xs ys : List V} {ds es : List PyData} {W : Wd} {F H : Hp} (w : WOk Tb W F H) (h : SqT K W.Φ a xs) (hd : DpAll K W.Φ xs ds) (h' : SqT K W.Φ b ys) (hd' : DpAll K W.Φ ys es) : Drives K Tb B (RZ.ItzT K a b) W (zipL ds es) := by
  have l1 := DpAll.len hd
  have l2 := DpAll.len hd'
  have hl : (zipL ds es).length = min ds.length es.length := List.length_zipWith
  have z1 := sqT_sz w h
  refine ⟨by omega, fun i W' F' H' hi e w' => ?_, fun W' F' H' e w' => ?_, fun i x H1 H2 d W' F' ρ σ hi e s hy => ?_⟩
  · obtain ⟨x, y, hx, hy, _⟩ := zip_get (List.getElem?_eq_getElem hi)
    obtain ⟨v, hv, _⟩ := DpAll.get hd hx
    obtain ⟨u, hu, _⟩ := DpAll.get hd' hy
    exact ⟨xs, ys, v, u, sqT_le w'.fz (sqT_le e.φ h), sqT_le w'.fz (sqT_le e.φ h'), hv, hu⟩
  · exact ⟨xs, ys, sqT_le w'.fz (sqT_le e.φ h), sqT_le w'.fz (sqT_le e.φ h'), by omega⟩
  · obtain ⟨p, v, u, rfl, hp, rfl, hx, hy⟩ := hy
    obtain ⟨dx, dy, gx, gy, rfl⟩ := zip_get hi
    have q1 := hx xs (sqT_le s.w.fz (sqT_le e.φ h))
    have q2 := hy ys (sqT_le s.w.fz (sqT_le e.φ h'))
    obtain ⟨v', hv, hvd⟩ := DpAll.get hd gx
    obtain ⟨u', hu, hud⟩ := DpAll.get hd' gy
    rw [q1] at hv; cases hv
    rw [q2] at hu; cases hu
    exact s.pair hp (dp_le e.φ _ _ hvd) (dp_le e.φ _ _ hud)
def zipD : List PyData → T (List PyData)
  | [.list xs, .list ys] => .ret (zipL xs ys)
  | [.tuple xs, .tuple ys] => .ret (zipL xs ys)
  | _ => .err
theorem ra_data {K : PySem.W.Frag} {g : Env → T (List AV)} {σ : L2.St} {H : Hp} {Q : List V → Hp → Prop} (h : ∃ W F ρ, Sim K Tb B W F ρ σ H ∧ Hold (g ρ) fun as => Hold (allS as) fun ds => ∀ W' H' vs, Ext W W' → Sim K Tb B W' F ρ σ H' → DpAll K W'.Φ vs ds → Q vs H') : ra K Tb B g σ H Q := by
  obtain ⟨W, F, ρ, s, q⟩ := h
  refine ⟨W, F, ρ, s, q.mono fun as z W1 H1 vs e1 s1 hv => ?_⟩
  obtain ⟨ds, hd, z⟩ := hv.data hv.noown z
  exact z W1 H1 vs e1 s1 hd
theorem pid_zip {e2 : Expr} {g : Env → T (List AV)} {elts : List Expr} {kk : Nat} {p tpos : Pos} (hg : Gl X "zip") (hm : X.mg "zip" = none) (ha : PAD Tb B X [e, e2] g)
    (hs : starEach [e, e2] X.env = (false, eval e X.env) :: starEach [e2] X.env := by rfl) (hpl : (backTo pos (starEach [e2] X.env)).any (·.1) = false := by rfl) :
    PID Tb B X (.Tuple elts kk tpos) (.Call (.Name "zip" p) [e, e2] [] pos) fun ρ => (g ρ).bind fun as => (allS as).bind zipD := by
  refine ⟨PI.weaken (RZ.pi_zipA hg hm ha hs hpl) fun σ H R ⟨W, F, ρ, s, q⟩ => ra_data ⟨W, F, ρ, s, (Hold.bind q).mono fun as z => (Hold.bind z).mono fun ds z W1 H1 vs e1 s1 hv => ?_⟩⟩
  have gen : ∀ d e : PyData, ds = [d, e] → ∃ v u, vs = [v, u] ∧ Dp X.K W1.Φ v d ∧ Dp X.K W1.Φ u e := fun d e h => by
    subst h
    cases hv with
    | cons h1 h2 => cases h2 with
      | cons h3 h4 =>
        cases h4
        exact ⟨_, _, rfl, h1, h3⟩
  unfold zipD at z
  split at z
  · obtain ⟨v, u, rfl, h1, h2⟩ := gen _ _ rfl
    cases h1 with
    | lst hs1 ha1 => cases h2 with
      | lst hs2 ha2 => exact ⟨_, _, _, _, rfl, .inl ⟨sqL_le s1.w.fz hs1, sqL_le s1.w.fz hs2, z W1 H1 _ e1 s1 (drives_zipL s1.w hs1 ha1 hs2 ha2)⟩⟩
  · obtain ⟨v, u, rfl, h1, h2⟩ := gen _ _ rfl
    cases h1 with
    | tup hs1 ha1 => cases h2 with
      | tup hs2 ha2 => exact ⟨_, _, _, _, rfl, .inr ⟨sqT_le s1.w.fz hs1, sqT_le s1.w.fz hs2, z W1 H1 _ e1 s1 (drives_zipT s1.w hs1 ha1 hs2 ha2)⟩⟩
  · exact z.elim
/-- enumerate(a list) -/
def enumL (ds : List PyData) : List PyData := ds.zipIdx.map fun p => PyData.tuple [.int (p.2 : Nat), p.1]
theorem drives_enum {K : PySem.W.Frag} {a : Addr} {xs : List V} {ds : List PyData} {W : Wd} {F H : Hp} (w : WOk Tb W F H) (h : SqL K W.Φ a xs) (hd : DpAll K W.Φ xs ds) : Drives K Tb B (Ite K a) W (enumL ds) := by
  have l1 := DpAll.len hd
  have hl : (enumL ds).length = ds.length := by simp [enumL]
  have z1 := sqL_sz w h
  have get : ∀ {i : Nat} {d : PyData}, (enumL ds)[i]? = some d → ∃ x, ds[i]? = some x ∧ d = .tuple [.int (i : Nat), x] := fun {i d} q => by
    unfold enumL at q
    rw [List.getElem?_map, List.getElem?_zipIdx] at q
    cases e1 : ds[i]? with
    | none => rw [e1] at q; cases q
    | some x =>
      rw [e1] at q
      refine ⟨x, rfl, ?_⟩
      have q := (Option.some.inj q).symm
      rw [q]
      simp
  refine ⟨by omega, fun i W' F' H' hi e w' => ?_, fun W' F' H' e w' => ?_, fun i x H1 H2 d W' F' ρ σ hi e s hy => ?_⟩
  · obtain ⟨x, hx, _⟩ := get (List.getElem?_eq_getElem hi)
    obtain ⟨v, hv, _⟩ := DpAll.get hd hx
    exact ⟨xs, v, sqL_le w'.fz (sqL_le e.φ h), hv⟩
  · exact ⟨xs, sqL_le w'.fz (sqL_le e.φ h), by omega⟩
  · obtain ⟨p, v, rfl, hp, rfl, hx⟩ := hy
    obtain ⟨dx, gx, rfl⟩ := get hi
    have q1 := hx xs (sqL_le s.w.fz (sqL_le e.φ h))
    obtain ⟨v', hv, hvd⟩ := DpAll.get hd gx
    rw [q1] at hv; cases hv
    exact s.pair hp (.int _) (dp_le e.φ _ _ hvd)
def enumD : List PyData → T (List PyData)
  | [.list xs] => .ret (enumL xs)
  | _ => .err
theorem pid_enum {g : Env → T (List AV)} {elts : List Expr} {kk : Nat} {p tpos : Pos} (hg : Gl X "enumerate") (hm : X.mg "enumerate" = none) (ha : PAD Tb B X [e] g)
    (hs : starEach [e] X.env = (false, eval e X.env) :: starEach [] X.env := by rfl) :
    PID Tb B X (.Tuple elts kk tpos) (.Call (.Name "enumerate" p) [e] [] pos) fun ρ => (g ρ).bind fun as => (allS as).bind enumD := by
  refine ⟨PI.weaken (pi_enum hg hm ha hs) fun σ H R ⟨W, F, ρ, s, q⟩ => ra_data ⟨W, F, ρ, s, (Hold.bind q).mono fun as z => (Hold.bind z).mono fun ds z W1 H1 vs e1 s1 hv => ?_⟩⟩
  unfold enumD at z
  split at z
  · cases hv with
    | cons h1 h2 =>
      cases h2
      cases h1 with
      | lst hs1 ha1 => exact ⟨_, _, rfl, sqL_le s1.w.fz hs1, z W1 H1 _ e1 s1 (drives_enum s1.w hs1 ha1)⟩
  · exact z.elim
/-! ### range of two, as what is walked -/
def range2D (x y : PyData) : T (List PyData) := match x, y with
  | .int i, .int j => if (-100000 ≤ i ∧ i ≤ 100000) ∧ (-100000 ≤ j ∧ j ≤ 100000) then .ret (upFrom i (j - i).toNat) else .err
  | _, _ => .err
theorem pid_range2 {tg a b : Expr} {f g : Env → T PyData} {p : Pos} (hg : Gl X "range") (hm : X.mg "range" = none) (ha : PB Tb B X a f) (hb : PB Tb B X b g)
    (h1 : starEach [a, b] X.env = [(false, eval a X.env), (false, eval b X.env)] := by rfl) (h2 : starEach [b] X.env = (false, eval b X.env) :: starEach [] X.env := by rfl) :
    PID Tb B X tg (.Call (.Name "range" p) [a, b] [] pos) fun ρ => (f ρ).bind fun x => (g ρ).bind fun y => range2D x y := by
  have h3 : starEach [a, b] X.env = (false, eval a X.env) :: starEach [b] X.env := h1.trans (by rw [h2]; rfl)
  refine ⟨PI.weaken (pi_range2 hg hm (pa_cons ha (pa_cons hb pa_nil h2) h3) h1 (h2.trans (by rfl))) fun σ H R ⟨W, F, ρ, s, q⟩ => ⟨W, F, ρ, s, (Hold.bind q).mono fun d z => fun W1 H1 v e1 s1 r1 => ?_⟩⟩
  refine ⟨W1, F, ρ, s1, (Hold.bind z).mono fun d2 z2 => fun W2 H2 v2 e2 s2 r2 => ?_⟩
  cases d with
  | int i => cases d2 with
    | int j =>
      have q1 := r1 W2 F H2 e2 s2
      have q2 := r2 W2 F H2 (Ext.refl _) s2
      obtain ⟨hz, z2⟩ := hold_if z2
      have hs : (1000000 : Nat) ≤ sizeLine := by decide
      exact ⟨i, j, by rw [q1.int, q2.int], ⟨by omega, by omega, by omega, by omega⟩, z2 W2 H2 _ (e1.trans e2) s2 (drives_range (by omega))⟩
    | _ => exact z2.elim
  | _ => exact z2.elim
end
end Dn
end
section
set_option Elab.async false
set_option linter.all false
set_option autoImplicit false
set_option maxRecDepth 100000
/-! Dn10: functions as values; a lambda handed to a def. -/
namespace Dn
open PySem PySem.Spec PyProof.Rows L2 LamX

/-- v is a function that, in all that W0 knows and the heap base, does g -/
def Cal (P : Program) (w : World) (K : PySem.W.Frag) (mg : Str → Option Value) (base : Heap) (Tb : List (Addr × Str)) (W0 : Wd) (v : V) (g : List PyData → T PyData) : Prop :=
  ∃ a : Addr, v = .ref a ∧ PySem.W.FnAt a base ∧ ∀ (A : Around) (outer : List PySem.Env) (s : Shared) (H : Hp) (us : List Value) (vs : List V) (W : Wd) (F : Hp) (ds : List PyData) (Q : VK), Room 24 A → A.guards = some [] → Env0 P w K mg base A outer s H → Vals vs us →
    WOk Tb W F H → Ext W0 W → DpAll K W.Φ vs ds → Hold (g ds) (fun d => ∀ W' H' v, Ext W W' → WOk Tb W' F H' → Dp K W'.Φ v d → Q v H') → codeAny (model P w) A (.call (.ref a) ⟨us, []⟩) (CR CX0 outer P w H s Q E0) s
abbrev CalX (X : Cx) (Tb : List (Addr × Str)) : Wd → V → (List PyData → T PyData) → Prop := Cal X.prog X.w X.K X.mg X.base Tb
section
variable {Tb : List (Addr × Str)} {X : Cx}
/-- f(..), f a name that holds a function -/
def callV (i : Nat) (ga : Env → T (List AV)) (ρ : Env) : T AV := match ρ[i]? with
  | some (.fn g) => (ga ρ).bind fun as => (allS as).bind fun ds => (g ds).bind fun d => .ret (.sh d)
  | _ => .err
theorem pd_callV {i : Nat} {x : Str} {p pos : Pos} {e : Expr} {es : List Expr} {ga : Env → T (List AV)} (hr : Room 24 X.A) (hgd : X.A.guards = some []) (ha : PAD Tb (CalX X Tb) X (e :: es) ga)
    (hN : X.N[i]? = some x) (hv : Vis X.env.scope x) (hd : (x == ("__debug__" : Str)) = false := by decide) (hcd : (x == ("__classdict__" : Str)) = false := by decide)
    (he : starEach (e :: es) X.env = (false, eval e X.env) :: starEach es X.env := by rfl) (hpl : (backTo pos (starEach es X.env)).any (·.1) = false := by rfl) :
    PD Tb (CalX X Tb) X (.Call (.Name x p) (e :: es) [] pos) (callV i ga) := by
  refine ⟨fun pins s σ H Q I ⟨W, F, ρ, sm, q⟩ => ?_⟩
  unfold callV at q
  cases ei : ρ[i]? with
  | none => simp only [ei] at q; exact q.elim
  | some av => cases av with
    | fn g =>
      simp only [ei] at q
      obtain ⟨v, hs, W0, e0, a, rfl, hfa, run⟩ := sm.get ei (by intro z; cases z) (by intro ds z; cases z)
      refine wpAny_Call_Name_kw (thn ((pe_var (pos := p) hN hv hd hcd).run pins s σ H (fun v H1 => v = .ref a ∧ H1 = H) I ⟨.ref a, hs, rfl, rfl⟩) fun u s1 ⟨v, H1, I1, r1, ev, eH⟩ => ?_)
      subst ev
      rw [eH] at I1
      obtain rfl : u = Value.ref a := r1
      have fat : ∀ {σ' H' s'}, Inv X pins σ' H' s' → PySem.W.FnAt a s'.heap := fun {σ' H' s'} J => by
        obtain ⟨oc, od, fd, sl, h⟩ := hfa
        exact ⟨oc, od, fd, sl, J.bk _ _ h⟩
      refine PySem.W.callWith_F (first := []) (fat I1) (thn (ha.run pos pins s1 σ H (fun vs H2 => ∃ W2 ds, Ext W W2 ∧ Sim X.K Tb (CalX X Tb) W2 F ρ σ H2 ∧ DpAll X.K W2.Φ vs ds ∧ Hold (g ds) fun d => RPost X.K Tb (CalX X Tb) W F ρ σ Q (.sh d)) I1 ⟨W, F, ρ, sm, (Hold.bind q).mono fun as z W1 H1 vs e1 s1 hv => ?_⟩)
        fun us s2 ⟨vs, H2, I2, r, W2, ds, e2, s2', hd2, z⟩ => ⟨fat I2, ?_⟩) he hpl
      · obtain ⟨ds, hd, z⟩ := hv.data hv.noown (Hold.bind z)
        exact ⟨W1, ds, e1, s1, hd, (Hold.bind z).mono fun d z => z⟩
      · show wpAny _ _ (call (.ref a) us) _ _ _
        refine run_back (f := .none) I2 (run X.A X.stack s2 H2 us vs W2 (pack ρ σ F H2) ds Q hr hgd I2.env0 r s2'.packed (e0.trans e2) hd2 (z.mono fun d z W' H' v e w hv => z W' H' v (e2.trans e) (s2'.back e w) hv))
    | _ => simp only [ei] at q; exact q.elim
end

/-! ### the heap that nobody writes while a call runs -/
theorem funFrames_base {h base base' : Heap} : ∀ {l : List PySem.Env}, h.FunFrames base l → (∀ b ∈ frs l, base'.get? b = none) → h.FunFrames base' l
  | [], _, _ => trivial
  | env :: rest, ⟨h1, ⟨L, o, hf, hn, ho, hd⟩, hr⟩, k => by
    have e : frs (env :: rest) = L :: frs rest := by
      show (env :: rest).filterMap (·.frame) = _
      rw [List.filterMap_cons, hf] <;> rfl
    rw [e] at k
    exact ⟨h1, ⟨L, o, hf, k L List.mem_cons_self, ho, hd⟩, funFrames_base hr fun b hb => k b (List.mem_cons_of_mem _ hb)⟩
open Classical in
theorem hid_base {X : Cx} {pins : List (Addr × Obj)} {σ : L2.St} {H : Hp} {s : Shared} (I : Inv X pins σ H s) :
    ∃ base' : Heap, Env0 X.prog X.w X.K X.mg base' X.A X.stack s H ∧ (∀ b o, X.base.get? b = some o → base'.get? b = some o) ∧ (∀ b o, s.heap.get? b = some o → H b = none → b ∉ frs X.stack → base'.get? b = some o) := by
  have E := I.env0
  let Hx : Hp := fun b => if b ∈ frs X.stack then some (.lst []) else H b
  have hx : ∀ b, H b = none → b ∉ frs X.stack → Hx b = none := fun b h1 h2 => by
    show (if b ∈ frs X.stack then some (HO.lst []) else H b) = none
    rw [if_neg h2]
    exact h1
  have hx2 : ∀ b, Hx b = none → H b = none ∧ b ∉ frs X.stack := fun b h => by
    have h : (if b ∈ frs X.stack then some (HO.lst []) else H b) = none := h
    by_cases hb : b ∈ frs X.stack
    · rw [if_pos hb] at h
      cases h
    · rw [if_neg hb] at h
      exact ⟨h, hb⟩
  have sub : ∀ b o, X.base.get? b = some o → (hidT s.heap Hx).get? b = some o := fun b o e => by
    obtain ⟨h1, h2⟩ := I.bs b o e
    refine hidT_get h1 (hx b h2 fun hb => ?_)
    have := (E.funs.mem hb).1
    rw [e] at this
    cases this
  refine ⟨hidT s.heap Hx, ⟨E.frames, ⟨E.mod.kin.keeps sub, E.mod.glob.keeps sub, ?_, E.mod.nolimit.keeps sub⟩, fun b o e => ?_, Nat.le_of_eq (hidT_size _ _), funFrames_base E.funs fun b hb => ?_, E.frf, E.hok, E.bare⟩, sub, fun b o e h1 h2 => hidT_get e (hx b h1 h2)⟩
  · obtain ⟨mb, h1, h2⟩ := E.mod.blt
    exact ⟨mb, h1.keeps sub, h2⟩
  · obtain ⟨h1, h2⟩ := of_hidT e
    exact ⟨h1, (hx2 b h2).1⟩
  · cases q : (hidT s.heap Hx).get? b with
    | none => rfl
    | some o => exact absurd hb (hx2 b (of_hidT q).2).2
/-- a code object is known from now on -/
theorem Sim.code {K : PySem.W.Frag} {Tb : List (Addr × Str)} {B : Wd → V → (List PyData → T PyData) → Prop} {W : Wd} {F H : Hp} {ρ : Env} {σ : L2.St} {c : Addr} {q : Str} (s : Sim K Tb B W F ρ σ H) (hc : H c = some (CodeO c q)) :
    ∃ W', Ext W W' ∧ Sim K Tb B W' F ρ σ H ∧ W'.Φ c = some (CodeO c q) := by
  have nF : F c = none := by
    cases e : F c with
    | none => rfl
    | some o =>
      obtain ⟨vs, rfl⟩ := s.w.fl c o e
      have := s.w.fr c _ e
      rw [hc] at this
      unfold CodeO at this
      cases this
  have nP : ¬ W.P c := fun z => by
    obtain ⟨_, i, j, e, _⟩ := s.w.pt c z
    rw [hc] at e
    unfold CodeO at e
    cases e
  have old : ∀ b o, W.Φ b = some o → upd W.Φ c (CodeO c q) b = some o := fun b o e => by
    by_cases hb : b = c
    · subst hb
      have := s.w.fz _ o e
      rw [hc] at this
      rw [upd_same]
      exact this
    · rw [upd_ne hb]
      exact e
  have e : Ext W ⟨upd W.Φ c (CodeO c q), W.P⟩ := ⟨old, fun _ h => h⟩
  have new : ∀ {b o}, upd W.Φ c (CodeO c q) b = some o → (b = c ∧ o = CodeO c q) ∨ (b ≠ c ∧ W.Φ b = some o) := fun {b o} h => by
    by_cases hb : b = c
    · subst hb
      rw [upd_same] at h
      exact .inl ⟨rfl, (Option.some.inj h).symm⟩
    · rw [upd_ne hb] at h
      exact .inr ⟨hb, h⟩
  refine ⟨⟨upd W.Φ c (CodeO c q), W.P⟩, e, ⟨⟨fun b o h => ?_, s.w.fr, fun b o h => ?_, fun b h => ?_, s.w.tb, fun b o h => ?_, fun b xs h => ?_, s.w.fl⟩, s.s.len, fun i av h1 h2 h3 => ?_, fun i ds h => ?_, s.s.ne⟩, upd_same⟩
  · rcases new h with ⟨rfl, rfl⟩ | ⟨_, h⟩
    · exact hc
    · exact s.w.fz b o h
  · obtain ⟨h1, h2⟩ := s.w.dj b o h
    have hb : b ≠ c := fun z => by
      subst z
      rw [nF] at h
      cases h
    exact ⟨by show upd W.Φ c _ b = none; rw [upd_ne hb]; exact h1, h2⟩
  · obtain ⟨h1, h2⟩ := s.w.pt b h
    have hb : b ≠ c := fun z => nP (z ▸ h)
    exact ⟨by show upd W.Φ c _ b = none; rw [upd_ne hb]; exact h1, h2⟩
  · rcases h with h | h
    · rcases new h with ⟨rfl, rfl⟩ | ⟨_, h⟩
      · exact fun ps => codeO_ne ps
      · exact s.w.nt b o (.inl h)
    · exact s.w.nt b o (.inr h)
  · refine s.w.sz b xs ?_
    have key : ∀ {o : HO}, upd W.Φ c (CodeO c q) b = some o → o ≠ CodeO c q → W.Φ b = some o := fun {o} h n => by
      rcases new h with ⟨_, h⟩ | ⟨_, h⟩
      · exact absurd h n
      · exact h
    have ne1 : ∀ ys, HO.lst ys ≠ CodeO c q := fun ys z => by unfold CodeO at z; cases z
    have ne2 : ∀ ys, HO.tup ys ≠ CodeO c q := fun ys z => by unfold CodeO at z; cases z
    have ne3 : ∀ o u, HO.frz o u ≠ CodeO c q := fun o u z => by unfold CodeO at z; cases z
    rcases h with (h | ⟨o, h⟩) | (h | ⟨o, h⟩)
    · exact .inl (.inl (key h (ne1 _)))
    · exact .inl (.inr ⟨o, key h (ne3 _ _)⟩)
    · exact .inr (.inl (key h (ne2 _)))
    · exact .inr (.inr ⟨o, key h (ne3 _ _)⟩)
  · obtain ⟨v, q1, q2⟩ := s.s.sh i av h1 h2 h3
    exact ⟨v, q1, q2.ext e⟩
  · obtain ⟨a, vs, h1, h2, hz, h3, h4, h5, h6⟩ := s.s.own i ds h
    have hb : a ≠ c := fun z => by
      rw [z, hc] at h2
      unfold CodeO at h2
      cases h2
    exact ⟨a, vs, h1, h2, hz, by show upd W.Φ c _ a = none; rw [upd_ne hb]; exact h3, h4, h5, dpAll_le e.φ _ _ h6⟩
/-! ### a lambda -/
def cap1 (ρ : Env) (j : Nat) : AV := match ρ[j]? with
  | some (.sh d) => .sh d
  | some .pot => .pot
  | _ => .no
def caps (js : List Nat) (ρ : Env) : Env := js.map (cap1 ρ)
/-- what a lambda does: its parameters, then what it captured -/
def lamG (n : Nat) (js : List Nat) (N : Nat) (fb : Env → T AV) (ρ : Env) (ds : List PyData) : T PyData := if ds.length = n then (fb (ds.map AV.sh ++ (caps js ρ ++ List.replicate (N - ds.length - js.length) .no))).bind toS else .err
/-- data alone -/
def dataA : AV → T AV
  | .sh d => .ret (.sh d)
  | .own ds => .ret (.own ds)
  | _ => .err
section
variable {Tb : List (Addr × Str)} {X : Cx}
theorem lam_sim {K : PySem.W.Frag} {B B' : Wd → V → (List PyData → T PyData) → Prop} {W0 W W2 : Wd} {F F2 H H2 : Hp} {ρ : Env} {σ : L2.St} {js : List Nat} {N : List Str} {vs : List V} {ds : List PyData} (s : Sim K Tb B W F ρ σ H) (e : Ext W W2) (w : WOk Tb W2 F2 H2) (hd : DpAll K W2.Φ vs ds) :
    Sim K Tb B' W2 F2 (ds.map AV.sh ++ (caps js ρ ++ List.replicate (N.length - ds.length - js.length) .no)) (NdefX.startF N vs (js.map (NdefX.slotAt σ))) H2 := by
  have hl := DpAll.len hd
  have noown : ∀ {i : Nat} {es : List PyData}, (ds.map AV.sh ++ (caps js ρ ++ List.replicate (N.length - ds.length - js.length) AV.no))[i]? = some (.own es) → False := fun {i es} h => by
    have m := List.mem_of_getElem? h
    rcases List.mem_append.mp m with m | m
    · obtain ⟨d, _, e⟩ := List.mem_map.mp m
      cases e
    · rcases List.mem_append.mp m with m | m
      · obtain ⟨j, _, e⟩ := List.mem_map.mp m
        unfold cap1 at e
        split at e <;> cases e
      · cases (List.mem_replicate.mp m).2
  refine ⟨w, ⟨?_, fun i av h1 h2 h3 => ?_, fun i es h => (noown h).elim, fun i j es es' a _ h _ _ => (noown h).elim⟩⟩
  · unfold NdefX.startF caps
    simp only [List.length_append, List.length_map, List.length_replicate]
    omega
  · unfold NdefX.startF
    by_cases c1 : i < ds.length
    · rw [List.getElem?_append_left (by rw [List.length_map]; exact c1), List.getElem?_map] at h1
      cases ed : ds[i]? with
      | none => rw [ed] at h1; cases h1
      | some d =>
        rw [ed] at h1
        cases h1
        obtain ⟨v, hv, hvd⟩ := DpAll.get hd ed
        refine ⟨v, ?_, hvd⟩
        rw [List.getElem?_append_left (by rw [List.length_map, hl]; exact c1), List.getElem?_map, hv]
        rfl
    · rw [List.getElem?_append_right (by rw [List.length_map]; omega), List.length_map] at h1
      by_cases c2 : i - ds.length < js.length
      · have hc : (caps js ρ).length = js.length := by unfold caps; rw [List.length_map]
        rw [List.getElem?_append_left (by rw [hc]; exact c2)] at h1
        unfold caps at h1
        rw [List.getElem?_map] at h1
        cases ej : js[i - ds.length]? with
        | none => rw [ej] at h1; cases h1
        | some j =>
          rw [ej] at h1
          have h1 : cap1 ρ j = av := Option.some.inj h1
          have go : ∀ v, σ[j]? = some (some v) → VOk K B' W2 v av → ∃ v, (vs.map some ++ (js.map (NdefX.slotAt σ) ++ List.replicate (N.length - vs.length - (js.map (NdefX.slotAt σ)).length) none))[i]? = some (some v) ∧ VOk K B' W2 v av := fun v h2 h3 => by
            refine ⟨v, ?_, h3⟩
            rw [List.getElem?_append_right (by rw [List.length_map, hl]; omega), show (vs.map some).length = ds.length by rw [List.length_map, hl], List.getElem?_append_left (by rw [List.length_map]; exact c2), List.getElem?_map, ej]
            show some (NdefX.slotAt σ j) = _
            rw [NdefX.slotAt_of h2]
          unfold cap1 at h1
          cases er : ρ[j]? with
          | none => simp only [er] at h1; exact absurd h1.symm h2
          | some aw => cases aw with
            | sh d =>
              simp only [er] at h1
              subst h1
              obtain ⟨v, q1, q2⟩ := s.s.sh j _ er (by intro z; cases z) (by intro ds z; cases z)
              exact go v q1 (dp_le e.φ _ _ q2)
            | pot =>
              simp only [er] at h1
              subst h1
              obtain ⟨v, q1, a, rfl, q2⟩ := s.s.sh j _ er (by intro z; cases z) (by intro ds z; cases z)
              exact go _ q1 ⟨a, rfl, e.p _ q2⟩
            | _ => simp only [er] at h1; exact absurd h1.symm h2
      · have hc : (caps js ρ).length = js.length := by unfold caps; rw [List.length_map]
        rw [List.getElem?_append_right (by rw [hc]; omega), List.getElem?_replicate] at h1
        split at h1
        · exact absurd (Option.some.inj h1).symm h2
        · cases h1
/-- the lambda's function -/
abbrev lamNF (q : Str) (params : Arguments) (scope : Scope) (cl : List (Str × Addr)) (c' : Addr) : NdefX.NF := ⟨"<lambda>", q, params, [], scope, cl, c'⟩
abbrev lamX (X : Cx) (base' : Heap) (N : List Str) (params : Arguments) (scope : Scope) (f c' : Addr) (A : Around) (outer : List PySem.Env) (s : Shared) (H : Hp) : Cx :=
  NdefX.ncx CX0 X.prog X.w X.K X.mg base' N (lamNF (X.env.qual ++ "<lambda>") params scope (cloFrom X.env.cells scope.names []) c') f A outer s H E0
/-- f(e, lambda ..) -/
theorem pd_lamcall {k : Nat} {x : Str} {st : Stmt} {xs ps fr N : List Str} {js : List Nat} {d : List AV → T AV} {e : Expr} {f : Env → T AV} {fb : Env → T AV} {params : Arguments} {body : Expr} {scope : Scope} {p lpos pos : Pos} {c P : Addr}
    (G : ∀ base' : Heap, (∀ b o, X.base.get? b = some o → base'.get? b = some o) → FnG X.prog X.w X.K X.mg base' Tb (Cal X.prog X.w X.K X.mg base' Tb) x st xs k d) (hxs : xs.length = 2) (hr : Room k X.A) (hgd : X.A.guards = some []) (hg : Gl X x) (he : PD Tb (CalX X Tb) X e f)
    (TB : TabB X.base X.mg c P) (hcode : X.env.code = .ref c) (hmT : (P, X.env.qual ++ "<lambda>") ∈ Tb) (hu : ∀ p ∈ Tb, p.1 = P → p.2 = X.env.qual ++ "<lambda>") (hdef : defaultsOf params X.env = ([], []))
    (S : NdefX.NScope N ps fr scope) (hfree : ∀ y ∈ scope.names, y.2 = .free → X.env.scope.names.lookup y.1 = some .cell ∨ X.env.scope.names.lookup y.1 = some .free) (hfr : ∀ y ∈ fr, (y, NameKind.free) ∈ scope.names) (hjs : js.map (fun j => X.N[j]?) = fr.map some) (hfn : ∀ x, X.fn x = true)
    (hbind : ∀ (q : Str) (cl : List (Str × Addr)) (pm cv ctv : Value) (us : List Value), us.length = ps.length → bindArgs (PySem.W.kla_fn "<lambda>" q params body scope cl pm cv ctv) ⟨us, []⟩ = pure (ps.zip us))
    (hbody : ∀ (base' : Heap), (∀ b o, X.base.get? b = some o → base'.get? b = some o) → ∀ (f c' : Addr) (A : Around) (outer : List PySem.Env) (s : Shared) (H : Hp), Room 23 (lamX X base' N params scope f c' A outer s H).A → (lamX X base' N params scope f c' A outer s H).A.guards = some [] →
      PD Tb (Cal X.prog X.w X.K X.mg base' Tb) (lamX X base' N params scope f c' A outer s H) body fb)
    (hdb : (x == ("__debug__" : Str)) = false := by decide) (h1 : starEach [e, .Lambda params body scope lpos] X.env = (false, eval e X.env) :: (false, eval (.Lambda params body scope lpos) X.env) :: [] := by rfl)
    (h2 : starEach [.Lambda params body scope lpos] X.env = (false, eval (.Lambda params body scope lpos) X.env) :: [] := by rfl) :
    PD Tb (CalX X Tb) X (.Call (.Name x p) [e, .Lambda params body scope lpos] [] pos) fun ρ => (f ρ).bind fun a => (toS a).bind fun y => (calling 2 d [.sh y, .fn (lamG ps.length js N.length fb ρ)]).bind dataA := by
  obtain ⟨fd0, F0, hb0, hm0, run0⟩ := (G X.base fun _ _ h => h).ex
  refine ⟨fun pins s σ H Q I ⟨W, F, ρ, sm, q⟩ => ?_⟩
  refine wpAny_Call_Name_kw (ld_glob I hg hm0 ?_ hdb)
  refine PySem.W.callWith_K (h₀ := X.base) I.ok.mod.kin F0.kp ?_ (by rw [h1, h2]) (by rw [h2]; rfl)
  rw [h1]
  show wpAny _ _ (spliced ((false, eval e X.env) :: (false, eval (.Lambda params body scope lpos) X.env) :: [])) _ _ s
  have key : ∀ (y : PyData), Hold (calling 2 d [.sh y, .fn (lamG ps.length js N.length fb ρ)]) (fun av => Hold (dataA av) (RPost X.K Tb (CalX X Tb) W F ρ σ Q)) → ∀ (W1 : Wd) (H1 : Hp) (v : V) (u : Value) (s1 : Shared), Ext W W1 → Sim X.K Tb (CalX X Tb) W1 F ρ σ H1 → Dp X.K W1.Φ v y → Inv X pins σ H1 s1 → L2.RelV v u →
      wpAny (model X.prog X.w) X.A (spliced [(false, eval (.Lambda params body scope lpos) X.env)]) (fun vs s₂ => X.K.In s₂.heap ∧ wpAny (model X.prog X.w) X.A (call (.ref (He.ga X.K x)) (u :: vs)) (EP X pins σ Q) X.xe s₂) X.xe s1 := by
    intro y z W1 H1 v u s1 e1 sm1 hv I1 ru
    have has : ∀ y ∈ scope.names, y.2 = .free → ∃ c, X.env.cells.lookup y.1 = some c := fun y hy e => (hfree y hy e).elim (fun z => I1.ok.has _ (.inl z)) fun z => I1.ok.has _ (.inr z)
    refine Calls.spliced_cons (lam_make2 I1 TB hcode hmT hu sm1.w.tb hdef has fun fa c' pm ctv H2 s2 I2 eN T2 hfa hfn2 hfr2 hco => ?_)
    refine Calls.spliced_nil ⟨I2.kIn, ?_⟩
    obtain ⟨W2, e2, sm2, hc2⟩ := (sm1.grown eN T2).code hco
    obtain ⟨base', E', sub, inB⟩ := hid_base I2
    have C2 : NdefX.CellsAt (cloFrom X.env.cells scope.names []) fr (js.map (NdefX.slotAt σ)) s2.heap H2 := NdefX.cells_of I2 (NdefX.Caps.made I2.ok hfree hfr hjs)
    have cellB : ∀ y a, (cloFrom X.env.cells scope.names []).lookup y = some a → ∀ o, s2.heap.get? a = some o → base'.get? a = some o := fun y a ha o ho => by
      have hcx : X.env.cells.lookup y = some a := NdefX.clo_cm has ha
      refine inB a o ho (I2.freeC y a hcx) fun hb => ?_
      rcases List.mem_cons.mp (I2.stkSub a hb) with e | e
      · obtain ⟨m, ⟨ol, es, ep, hol, hdl, _⟩, _⟩ := I2.loc
        obtain ⟨v, oc, hoc, hdc⟩ := I2.cell y a hcx
        rw [e, hol] at hoc
        cases hoc
        rw [hdl] at hdc
        cases hdc
      · obtain ⟨_, o', ho', _⟩ := I2.ok.funs.mem e
        exact absurd (Heap.lt_size ho') (Nat.not_lt.mpr (I2.ok.cab y a (hfn y) hcx))
    have hfB := inB fa _ hfa hfn2 hfr2
    have cal : Cal X.prog X.w X.K X.mg base' Tb W2 (.ref fa) (lamG ps.length js N.length fb ρ) := by
      refine ⟨fa, rfl, ⟨_, _, _, _, hfB⟩, fun A outer s3 H3 us vs W3 F3 ds Q3 hr3 hg3 e03 rv w3 ex3 hd3 q3 => ?_⟩
      obtain ⟨hn3, q3⟩ := hold_if q3
      have hl3 := DpAll.len hd3
      have of3 := (e03.bs fa _ hfB).1
      have cr3 := NdefX.codeO_at e03.hok (w3.fz c' _ (ex3.φ c' _ hc2))
      have lim : s3.heap.NoLimit := e03.mod.nolimit.keeps fun b o e => (e03.bs b o e).1
      refine PySem.W.kla_callFunE hr3.depth of3 rfl S.co S.gen rfl cr3 ?_
      rw [hbind _ _ _ _ _ us (by rw [← rv.length, hl3, hn3])]
      refine wpAny_pure (wpAny_newFunctionEnv S.nocell (fun ⟨n, _⟩ hy => S.par n (List.of_mem_zip hy).1) (fun h₁ hns hsb => ⟨lim.fresh _ hsb, ?_⟩) S.kind)
      have kp : ∀ b o, s3.heap.get? b = some o → h₁.get? b = some o := fun b o e => hsb.extBut b o (Nat.ne_of_lt (Heap.lt_size e)) (Heap.get?_push_of_some _ e)
      have C3 : NdefX.CellsAt (cloFrom X.env.cells scope.names []) fr (js.map (NdefX.slotAt σ)) s3.heap H3 := by
        refine ⟨C2.len, fun y a ha => ?_, C2.inj, fun i y hy => ?_⟩
        · obtain ⟨_, v, o, ho, hd⟩ := C2.all y a ha
          obtain ⟨g1, g2⟩ := e03.bs a o (cellB y a ha o ho)
          exact ⟨g2, v, o, g1, hd⟩
        · obtain ⟨a, ha, hv⟩ := C2.has i y hy
          refine ⟨a, ha, fun v hw => ?_⟩
          obtain ⟨u, ru, o, ho, hd⟩ := hv v hw
          exact ⟨u, ru, o, (e03.bs a o (cellB y a ha o ho)).1, hd⟩
      have J := NdefX.inv_startN (CX := CX0) (E := E0) (F := lamNF (X.env.qual ++ "<lambda>") params scope (cloFrom X.env.cells scope.names []) c') (f := fa) (tk := s3.toks + (ps.zip us).length) S hr3.hd e03 (by rw [hl3, hn3]) rv C3 hns kp
      have hq := (hbody base' sub fa c' A outer s3 H3 (hr3.deeper _) hg3).run [] _ _ H3 Q3 J ⟨W3, F3, _, lam_sim (W0 := W2) (B' := Cal X.prog X.w X.K X.mg base' Tb) (N := N) (js := js) sm2 ex3 w3 hd3, (Hold.bind q3).mono fun av z => RPost.shd (z.mono fun y z W' H' v e s hv => z W' H' v e s.w hv)⟩
      refine PySem.W.kla_codeExpr (wpAny_mono hq (fun v s' hq => ?_) fun e s' hq => hq)
      obtain ⟨w', H', J', rv', q⟩ := hq
      exact ⟨w', H', J'.os, J'.bare, J'.base, J'.hok, rv', q⟩
    obtain ⟨fd, F', hb', hm', run'⟩ := (G base' sub).ex
    have hx : X.mg x = some (.ref (He.ga X.K x)) := hm'
    have bt := hb' s2 [u, .ref fa] I2.kIn (by rw [List.length_append, hxs]; rfl)
    rw [List.append_nil] at bt
    obtain ⟨hn, z⟩ := hold_if z
    refine run_back (f := .none) I2 (run' X.A X.stack s2 H2 ⟨[u, .ref fa], []⟩ [u, .ref fa] [v, .ref fa] Q hr hgd E' bt (.cons ru (.cons rfl .nil)) ?_)
    have vall : VAll X.K (Cal X.prog X.w X.K X.mg base' Tb) W2 [v, .ref fa] [.sh y, .fn (lamG ps.length js N.length fb ρ)] := .cons (dp_le e2.φ _ _ hv) (.cons ⟨W2, Ext.refl _, cal⟩ .nil)
    refine ⟨W2, pack ρ σ F H2, _, sm2.packed, vall, by rw [hxs]; rfl, z.mono fun av z => ?_⟩
    cases av with
    | own ds =>
      intro W3 H3 a xs e3 hpn w hz hd
      obtain ⟨hF, s3⟩ := sm2.backOwn e3 hpn w
      exact z W3 H3 a xs ((e1.trans e2).trans e3) hF s3 hz hd
    | sh y => exact fun W3 H3 v e3 w hv => z W3 H3 v ((e1.trans e2).trans e3) (sm2.back e3 w) hv
    | _ => exact z.elim
  refine Calls.spliced_cons (thn (he.run pins s σ H (fun v H1 => ∃ W1 y, Ext W W1 ∧ Sim X.K Tb (CalX X Tb) W1 F ρ σ H1 ∧ Dp X.K W1.Φ v y ∧ Hold (calling 2 d [.sh y, .fn (lamG ps.length js N.length fb ρ)]) fun av => Hold (dataA av) (RPost X.K Tb (CalX X Tb) W F ρ σ Q)) I
    ⟨W, F, ρ, sm, (Hold.bind q).mono fun av z => RPost.shd ((Hold.bind z).mono fun y z W1 H1 v e1 s1 hv => ⟨W1, y, e1, s1, hv, Hold.bind z⟩)⟩) fun u s1 ⟨v, H1, I1, r1, W1, y, e1, sm1, hv, z⟩ => ?_)
  exact key y z W1 H1 v u s1 e1 sm1 hv I1 r1
end
end Dn
end
section
set_option Elab.async false
set_option linter.all false
set_option autoImplicit false
set_option maxRecDepth 100000
/-! Dn11: pots, constants of the module, promises weakened. -/
namespace Dn
open PySem PySem.Spec PyProof.Rows L2 LamX

/-! ### promises -/
section
variable {P : Program} {w : World} {K : PySem.W.Frag} {mg : Str → Option Value} {base : Heap} {Tb : List (Addr × Str)} {B : Wd → V → (List PyData → T PyData) → Prop}
theorem FnG.weaken {x : Str} {st : Stmt} {ps : List Str} {k : Nat} {d d' : List AV → T AV} (G : FnG P w K mg base Tb B x st ps k d) (h : ∀ as p, Hold (d' as) p → Hold (d as) p) : FnG P w K mg base Tb B x st ps k d' :=
  let ⟨fd, h1, h2, h3, h4⟩ := G.ex
  ⟨fd, h1, h2, h3, fun A outer s H args us vs Q hr hg e0 hb r ⟨W, F, as, a1, a2, a3, a4⟩ => h4 A outer s H args us vs Q hr hg e0 hb r ⟨W, F, as, a1, a2, a3, h as _ a4⟩⟩
theorem WOk.toPot {W : Wd} {F H : Hp} {a : Addr} {i j : Int} (hn : F a = none) (wk : WOk Tb W (upd F a (.lst [.int i, .int j])) H) (hp : PotOk i j) : ∃ W', Ext W W' ∧ WOk Tb W' F H ∧ W'.P a := by
  obtain ⟨d1, d2⟩ := wk.dj a _ upd_same
  have hH := wk.fr a _ upd_same
  refine ⟨⟨W.Φ, fun b => b = a ∨ W.P b⟩, ⟨fun _ _ h => h, fun _ h => .inr h⟩, ⟨wk.fz, fun b o e => wk.fr b o (upd_le hn b o e), fun b o e => ?_, fun b hb => ?_, wk.tb, fun b o e => wk.nt b o (e.imp id (upd_le hn b o)), wk.sz, fun b o e => wk.fl b o (upd_le hn b o e)⟩, .inl rfl⟩
  · obtain ⟨h1, h2⟩ := wk.dj b o (upd_le hn b o e)
    refine ⟨h1, ?_⟩
    rintro (z | z)
    · subst z
      rw [hn] at e
      cases e
    · exact h2 z
  · rcases hb with rfl | hb
    · exact ⟨d1, i, j, hH, hp⟩
    · exact wk.pt b hb
/-- what makes a list of two numbers makes a pot -/
theorem FnG.pot {x : Str} {st : Stmt} {ps : List Str} {k : Nat} {d d' : List AV → T AV} (G : FnG P w K mg base Tb B x st ps k d) (h : ∀ as p, Hold (d' as) p → Hold (d as) fun av => ∃ i j : Int, av = .own [.int i, .int j] ∧ PotOk i j ∧ p .pot) : FnG P w K mg base Tb B x st ps k d' := by
  obtain ⟨fd, h1, h2, h3, h4⟩ := G.ex
  refine ⟨fd, h1, h2, h3, fun A outer s H args us vs Q hr hg e0 hb r ⟨W, F, as, a1, a2, a3, a4⟩ => h4 A outer s H args us vs Q hr hg e0 hb r ⟨W, F, as, a1, a2, a3, (h as _ a4).mono ?_⟩⟩
  rintro _ ⟨i, j, rfl, hp, z⟩
  intro W' H' a xs e hF wk hz hd
  have hx : xs = [.int i, .int j] := by
    cases hd with
    | cons q1 q2 => cases q2 with
      | cons q3 q4 =>
        cases q4
        cases q1
        cases q3
        rfl
  subst hx
  obtain ⟨W2, e2, w2, p2⟩ := wk.toPot hF hp
  exact z W2 H' _ (e.trans e2) w2 ⟨a, rfl, p2⟩
end
/-- a bound of the wide half of a pot -/
theorem big_ex : ∃ n : Nat, n = 2 ^ 2000000 := ⟨_, rfl⟩
noncomputable def BIG : Nat := big_ex.choose
theorem BIG_eq : BIG = 2 ^ 2000000 := big_ex.choose_spec
theorem BIG_pos : 0 < BIG := by
  rw [BIG_eq]
  exact Nat.two_pow_pos _
theorem lim_ex : ∃ n : Nat, n = 2147483648 := ⟨_, rfl⟩
/-- .. of the other half -/
noncomputable def LIM : Nat := lim_ex.choose
theorem LIM_eq : LIM = 2147483648 := lim_ex.choose_spec
theorem LIM_pos : 0 < LIM := by
  rw [LIM_eq]
  omega
section
variable {K : PySem.W.Frag} {Tb : List (Addr × Str)} {B : Wd → V → (List PyData → T PyData) → Prop} {W : Wd} {F H : Hp} {ρ : Env} {σ : L2.St}
theorem potOk_of {i j : Int} (h1 : 0 ≤ i) (h2 : i.toNat < BIG) (h3 : 0 ≤ j) (h4 : j < 2147483648) : PotOk i j := by
  refine ⟨h1, ?_, h3, h4⟩
  rw [BIG_eq] at h2
  generalize (2 : Nat) ^ 2000000 = z at h2 ⊢
  omega
theorem potOk_big {i j : Int} (h : PotOk i j) : i.toNat < BIG := by
  obtain ⟨h1, h2, _⟩ := h
  rw [BIG_eq]
  generalize (2 : Nat) ^ 2000000 = z at h2 ⊢
  omega
/-- a pot is written -/
theorem Sim.potSet {a : Addr} {i j : Int} (s : Sim K Tb B W F ρ σ H) (ha : W.P a) (hp : PotOk i j) : Sim K Tb B W F ρ σ (upd H a (.lst [.int i, .int j])) := by
  obtain ⟨hW, i0, j0, hH, _⟩ := s.w.pt a ha
  have nW : ∀ b o, W.Φ b = some o → b ≠ a := fun b o e => ne_of_none e hW
  have nF : ∀ b o, F b = some o → b ≠ a := fun b o e z => (s.w.dj b o e).2 (z ▸ ha)
  refine ⟨⟨fun b o e => by rw [upd_ne (nW b o e)]; exact s.w.fz b o e, fun b o e => by rw [upd_ne (nF b o e)]; exact s.w.fr b o e, s.w.dj, fun b hb => ?_, fun p hp => ?_, s.w.nt, s.w.sz, s.w.fl⟩, s.s.len, s.s.sh, fun k ds h => ?_, s.s.ne⟩
  · obtain ⟨h1, x, y, h2, h3⟩ := s.w.pt b hb
    by_cases e : b = a
    · subst e
      exact ⟨h1, i, j, upd_same, hp⟩
    · exact ⟨h1, x, y, by rw [upd_ne e]; exact h2, h3⟩
  · obtain ⟨ps, h1, h2, h3⟩ := s.w.tb p hp
    refine ⟨ps, by rw [upd_ne (ne_of h1 hH (by intro z; cases z))]; exact h1, h2, fun pos cv hc => ?_⟩
    obtain ⟨c, e1, e2⟩ := h3 pos cv hc
    exact ⟨c, e1, by rw [upd_ne (ne_of e2 hH (by intro z; unfold CodeO at z; cases z))]; exact e2⟩
  · obtain ⟨b, vs, h1, h2, hz, h3, h4, h5, h6⟩ := s.s.own k ds h
    have hb : b ≠ a := fun z => h5 (z ▸ ha)
    exact ⟨b, vs, h1, by rw [upd_ne hb]; exact h2, hz, h3, h4, h5, h6⟩
end
section
variable {Tb : List (Addr × Str)} {B : Wd → V → (List PyData → T PyData) → Prop} {X : Cx}
/-- pot[0], pot[1] -/
noncomputable def potRead (i : Nat) (k : Int) (ρ : Env) : T AV := match ρ[i]? with
  | some .pot => if k = 0 then .draw BIG fun d => .ret (.sh (.int (d : Nat))) else if k = 1 then .draw LIM fun d => .ret (.sh (.int (d : Nat))) else .err
  | _ => .err
theorem pd_pot {i : Nat} {k : Int} {o : Expr} {j : Nat} {p pos : Pos} (ho : PE X o (tVar i)) (hix : PlainIx (.Constant (.int k) j p)) : PD Tb B X (.Subscript o (.Constant (.int k) j p) pos) (potRead i k) := by
  refine PE.weaken (pe_ix ix_seq ho pe_int hix) fun σ H Q ⟨W, F, ρ, s, q⟩ => ?_
  unfold potRead at q
  cases ei : ρ[i]? with
  | none => simp only [ei] at q; exact q.elim
  | some av => cases av with
    | pot =>
      simp only [ei] at q
      obtain ⟨v, hv, a, rfl, ha⟩ := s.get ei (by intro z; cases z) (by intro ds z; cases z)
      obtain ⟨hW, x, y, hH, hp⟩ := s.w.pt a ha
      refine ⟨.ref a, hv, ?_⟩
      by_cases h0 : k = 0
      · subst h0
        rw [if_pos rfl] at q
        have hb := potOk_big hp
        have q : RPost X.K Tb B W F ρ σ Q (AV.sh (.int ((x.toNat : Nat) : Int))) := q.2 x.toNat hb
        have e : ((x.toNat : Nat) : Int) = x := Int.toNat_of_nonneg hp.1
        rw [e] at q
        exact .inl ⟨a, _, 0, .int x, rfl, rfl, .inl (.inl hH), rfl, q W H _ (Ext.refl _) s (.int _)⟩
      · rw [if_neg h0] at q
        obtain ⟨h1, q⟩ := hold_if q
        subst h1
        obtain ⟨p1, p2, p3, p4⟩ := hp
        have q : RPost X.K Tb B W F ρ σ Q (AV.sh (.int ((y.toNat : Nat) : Int))) := q.2 y.toNat (by rw [LIM_eq]; omega)
        have e : ((y.toNat : Nat) : Int) = y := Int.toNat_of_nonneg p3
        rw [e] at q
        exact .inl ⟨a, _, 1, .int y, rfl, rfl, .inl (.inl hH), rfl, q W H _ (Ext.refl _) s (.int _)⟩
    | _ => simp only [ei] at q; exact q.elim
/-- pot[k] = .. -/
noncomputable def potG (i : Nat) (k : Int) (d : PyData) (ρ : Env) : T Env := match ρ[i]? with
  | some .pot => match d with
    | .int v => if 0 ≤ v ∧ ((k = 0 ∧ v.toNat < BIG) ∨ (k = 1 ∧ v.toNat < LIM)) then .ret ρ else .err
    | _ => .err
  | _ => .err
theorem pgd_pot {i : Nat} {k : Int} {o : Expr} {j : Nat} {p pos : Pos} (ho : PE X o (tVar i)) (hix : PE X (.Constant (.int k) j p) (tC (.int k)) := by exact pe_int) : PGD Tb B X (.Subscript o (.Constant (.int k) j p) pos) [] (potG i k) := by
  refine ⟨PG.weaken (pg_sub ho hix set_list) fun v σ H Q ⟨W, F, ρ, d, s, hd, q⟩ => ?_⟩
  unfold potG at q
  cases ei : ρ[i]? with
  | none => simp only [ei] at q; exact q.elim
  | some av => cases av with
    | pot =>
      simp only [ei] at q
      obtain ⟨u, hv, a, rfl, ha⟩ := s.get ei (by intro z; cases z) (by intro ds z; cases z)
      obtain ⟨hW, x, y, hH, hp⟩ := s.w.pt a ha
      cases d with
      | int n =>
        cases hd
        obtain ⟨⟨h0, hk⟩, q2⟩ := hold_if q
        rcases hk with ⟨rfl, hb⟩ | ⟨rfl, hb⟩
        · exact ⟨.ref a, hv, a, _, 0, 0, rfl, rfl, hH, rfl, q2 W σ _ (Ext.refl _) (s.potSet ha (potOk_of h0 hb hp.2.2.1 hp.2.2.2)) (Agree.refl _)⟩
        · exact ⟨.ref a, hv, a, _, 1, 1, rfl, rfl, hH, rfl, q2 W σ _ (Ext.refl _) (s.potSet ha ⟨hp.1, hp.2.1, h0, by rw [LIM_eq] at hb; omega⟩) (Agree.refl _)⟩
      | _ => exact q.elim
    | _ => simp only [ei] at q; exact q.elim
/-- a list of two numbers is a pot from now on -/
noncomputable def potOf : AV → T AV
  | .own [.int i, .int j] => if 0 ≤ i ∧ i.toNat < BIG ∧ 0 ≤ j ∧ j.toNat < LIM then .ret .pot else .err
  | _ => .err
theorem FnG.potOf {P : Program} {w : World} {K : PySem.W.Frag} {mg : Str → Option Value} {base : Heap} {x : Str} {st : Stmt} {ps : List Str} {k : Nat} {d : List AV → T AV} (G : FnG P w K mg base Tb B x st ps k d) : FnG P w K mg base Tb B x st ps k fun as => (d as).bind Dn.potOf := by
  refine G.pot fun as p h => (Hold.bind h).mono fun av z => ?_
  unfold Dn.potOf at z
  split at z
  · obtain ⟨hz, z⟩ := hold_if z
    exact ⟨_, _, rfl, potOk_of hz.1 hz.2.1 hz.2.2.1 (by have := hz.2.2.2; rw [LIM_eq] at this; omega), z⟩
  · exact z.elim
/-! ### divmod, ** -/
def divmodD : List PyData → T AV := two2 (intD fun i j => if 0 < j ∧ j < 1073741824 then .ret (.sh (.tuple [.int (i / j), .int (i % j)])) else .err)
theorem ok_divmod : CallOk Tb B X.K (fun xs H Q => ∃ i j, xs = [V.int i, V.int j] ∧ CDiv i j ∧ ∀ p, H p = none → Q (V.ref p) (upd H p (.tup [.int (i / j), .int (i % j)]))) divmodD := call2 fun W F ρ σ H v w d e Q s a b q => by
  cases d with
  | int i => cases e with
    | int j =>
      obtain ⟨hz, q⟩ := hold_if q
      exact ⟨i, j, by rw [a.int, b.int], hz, s.mkT (vs := [.int (i / j), .int (i % j)]) (.cons (.int _) (.cons (.int _) .nil)) two_sz q⟩
    | _ => exact q.elim
  | _ => exact q.elim
def powD : PyData → PyData → T AV := intD fun i j => if 0 ≤ j ∧ j ≤ 1000000 ∧ i.natAbs < 2 ^ 64 then .ret (.sh (.int (i ^ j.toNat))) else .err
theorem ok_pow : OpOk Tb B X.K (rI CPow fun i j => .int (i ^ j.toNat)) powD := ok_int fun W F ρ σ H i j Q s q => by
  obtain ⟨hz, q⟩ := hold_if q
  exact ⟨i, j, rfl, rfl, hz, q W H _ (Ext.refl _) s (.int _)⟩
/-! ### constants of the module -/
theorem pd_gint {x : Str} {i : Int} {t : Nat} {pos : Pos} (hg : Gl X x) (hm : X.mg x = some (.int i t)) (hd : (x == ("__debug__" : Str)) = false := by decide) : PD Tb B X (.Name x pos) fun _ => T.ret (AV.sh (.int i)) := pd_con (pe_glob (v := .int i) hg hm ⟨t, rfl⟩ hd) fun _ => .int i
theorem pd_gstr {x a : Str} {t : Nat} {pos : Pos} (hg : Gl X x) (hm : X.mg x = some (.str a t)) (hd : (x == ("__debug__" : Str)) = false := by decide) : PD Tb B X (.Name x pos) fun _ => T.ret (AV.sh (.str a)) := pd_con (pe_glob (v := .str a) hg hm ⟨t, rfl⟩ hd) fun _ => .str a
end
end Dn
end
section
set_option Elab.async false
set_option linter.all false
set_option autoImplicit false
set_option maxRecDepth 100000
/-! Dn12: short words for what the rules tell. -/
namespace Dn
open PySem PySem.Spec PyProof.Rows L2 LamX

/-- a, not to be looked into by reckoning -/
noncomputable def shut {α : Type} (a : α) : α := Classical.choose (⟨a, rfl⟩ : ∃ b : α, b = a)
theorem shut_eq {α : Type} (a : α) : shut a = a := Classical.choose_spec (⟨a, rfl⟩ : ∃ b : α, b = a)
abbrev vD (i : Nat) : Env → T PyData := fun ρ => slotD ρ i
abbrev vA (i : Nat) : Env → T AV := fun ρ => slotA ρ i
abbrev oA (f : Env → T AV) : Env → T PyData := fun ρ => (f ρ).bind toD
abbrev kA (d : PyData) : Env → T AV := fun _ => .ret (.sh d)
abbrev fzA (f : Env → T AV) : Env → T AV := fun ρ => (f ρ).bind fun av => .ret (frz av)
abbrev bin (op : PyData → PyData → T AV) (a b : Env → T PyData) : Env → T AV := fun ρ => (a ρ).bind fun x => (b ρ).bind fun y => op x y
abbrev tB (f : Env → T AV) : Env → T Bool := fun ρ => (f ρ).bind toB
abbrev tNot (f : Env → T Bool) : Env → T Bool := fun ρ => (f ρ).bind fun b => .ret (!b)
abbrev tAnd (f g : Env → T Bool) : Env → T Bool := fun ρ => (f ρ).bind fun x => if x = true then g ρ else .ret false
abbrev tOr (f g : Env → T Bool) : Env → T Bool := fun ρ => (f ρ).bind fun x => if x = true then .ret true else g ρ
abbrev nA (f : Env → T AV) : Env → T AV := fun ρ => ((f ρ).bind toB).bind fun b => .ret (.sh (.bool (!b)))
abbrev andA (f g : Env → T AV) : Env → T AV := fun ρ => ((f ρ).bind toB).bind fun x => if x = true then g ρ else .ret (.sh (.bool false))
abbrev orA (f g : Env → T AV) : Env → T AV := fun ρ => ((f ρ).bind toB).bind fun x => if x = true then .ret (.sh (.bool true)) else g ρ
abbrev ifA (c : Env → T Bool) (f g : Env → T AV) : Env → T AV := fun ρ => (c ρ).bind fun x => if x = true then f ρ else g ρ
abbrev chA (op op' : PyData → PyData → T AV) (a b c : Env → T PyData) : Env → T AV := fun ρ => (a ρ).bind fun x => (b ρ).bind fun y => ((op x y).bind toB).bind fun k => if k = true then (c ρ).bind fun z => op' y z else .ret (.sh (.bool false))
abbrev a0 : Env → T (List AV) := fun _ => .ret []
abbrev aC (f : Env → T AV) (g : Env → T (List AV)) : Env → T (List AV) := fun ρ => (f ρ).bind fun a => (g ρ).bind fun as => .ret (frz a :: as)
abbrev b0 : Env → T (List PyData) := fun _ => .ret []
abbrev bC (f : Env → T PyData) (g : Env → T (List PyData)) : Env → T (List PyData) := fun ρ => (f ρ).bind fun a => (g ρ).bind fun as => .ret (a :: as)
abbrev cal {α β : Type} (f : α → T β) (g : Env → T α) : Env → T β := fun ρ => (g ρ).bind f
abbrev calK (n : Nat) (d : List AV → T AV) (pm : List Nat) (g : Env → T (List AV)) : Env → T AV := fun ρ => (g ρ).bind fun zs => calling n d (pick pm zs)
abbrev isA (S : String) (f : Env → T PyData) : Env → T AV := fun ρ => (f ρ).bind fun d => .ret (.sh (.bool (isTy S d)))
abbrev is2A (S U : String) (f : Env → T PyData) : Env → T AV := fun ρ => (f ρ).bind fun d => .ret (.sh (.bool (isTy S d || isTy U d)))
abbrev slA (f : Env → T PyData) (l h : Env → T (Option Int)) : Env → T AV := fun ρ => (f ρ).bind fun d => (l ρ).bind fun l => (h ρ).bind fun h => slD d l h
abbrev o0 : Env → T (Option Int) := fun _ => .ret none
abbrev oI (f : Env → T PyData) : Env → T (Option Int) := fun ρ => (f ρ).bind fun d => (toI d).bind fun i => .ret (some i)
abbrev ixL (f g : Env → T PyData) : Env → T AV := fun ρ => (f ρ).bind fun d => optT (lstOf d) fun ds => (g ρ).bind fun e => indexL ds e
abbrev itS (f : Env → T AV) : Env → T (List PyData) := fun ρ => ((f ρ).bind toS).bind itemsD
abbrev itR (f : Env → T PyData) : Env → T (List PyData) := fun ρ => (f ρ).bind fun d => match d with
  | .int j => if j ≤ 100000 ∧ -100000 ≤ j then .ret (upFrom 0 j.toNat) else .err
  | _ => .err
abbrev itR2 (f g : Env → T PyData) : Env → T (List PyData) := fun ρ => (f ρ).bind fun x => (g ρ).bind fun y => range2D x y
abbrev itZ (g : Env → T (List AV)) : Env → T (List PyData) := fun ρ => (g ρ).bind fun as => (allS as).bind zipD
abbrev itE (g : Env → T (List AV)) : Env → T (List PyData) := fun ρ => (g ρ).bind fun as => (allS as).bind enumD
abbrev gN (i : Nat) : PyData → Env → T Env := fun d ρ => .ret (ρ.set i (.sh d))
abbrev g0 : List PyData → Env → T Env := fun ds ρ => match ds with
  | [] => .ret ρ
  | _ => .err
abbrev lamA (n : Nat) (d : List AV → T AV) (m : Nat) (js : List Nat) (N : Nat) (fb : Env → T AV) (f : Env → T AV) : Env → T AV := fun ρ => (f ρ).bind fun a => (toS a).bind fun y => (calling n d [.sh y, .fn (lamG m js N fb ρ)]).bind dataA
abbrev xO (f : Env → T AV) : Env → T (PyData × Env) := fun ρ => (f ρ).bind fun av => (toS av).bind fun d => .ret (d, ρ)
abbrev sNil : Env → T Out := fun ρ => .ret (.nx ρ)
abbrev sRet (f : Env → T AV) : Env → T Out := fun ρ => (f ρ).bind fun av => .ret (.rt av)
abbrev sEx (f : Env → T AV) : Env → T Out := fun ρ => (f ρ).bind fun _ => .ret (.nx ρ)
abbrev sErr : Env → T Out := fun _ => .err
abbrev sBk : Env → T Out := fun ρ => .ret (.bk ρ)
abbrev sCt : Env → T Out := fun ρ => .ret (.ct ρ)
abbrev sShare (is : List Nat) (f : Env → T Out) : Env → T Out := fun ρ => f (share is ρ)
section
variable {Tb : List (Addr × Str)} {B : Wd → V → (List PyData → T PyData) → Prop} {X : Cx}
/-- a, b, c = e1, e2, e3 -/
def par3D (i j l : Nat) (f g h : Env → T AV) (ρ : Env) : T Out := (f ρ).bind fun a => (g ρ).bind fun b => (h ρ).bind fun c => (setV l c ρ).bind fun ρ1 => (setV j b ρ1).bind fun ρ2 => (setV i a ρ2).bind fun ρ3 => .ret (.nx ρ3)
theorem psd_par3 {i j l : Nat} {x y z : Str} {a b c : Expr} {f g h : Env → T AV} {px py pz pt : Pos} {kt k2 : Nat} {pt2 pos : Pos} (hc : X.calm = true) (hN : X.N.Nodup) (hi : X.N[i]? = some x) (hj : X.N[j]? = some y) (hl : X.N[l]? = some z) (hij : i ≠ j) (hil : i ≠ l) (hjl : j ≠ l)
    (hx : X.env.scope.names.lookup x = some .local) (hy : X.env.scope.names.lookup y = some .local) (hz : X.env.scope.names.lookup z = some .local) (ha : PD Tb B X a f) (hb : PD Tb B X b g) (hcc : PD Tb B X c h)
    (hw : swappedStores [.Tuple [.Name x px, .Name y py, .Name z pz] kt pt] (.Tuple [a, b, c] k2 pt2) X.env = pure (some [x, y, z]))
    (hs : swapsWithSole [.Tuple [.Name x px, .Name y py, .Name z pz] kt pt] (.Tuple [a, b, c] k2 pt2) pos.line X.env = pure false := by rfl)
    (h1 : starEach [a, b, c] X.env = (false, eval a X.env) :: starEach [b, c] X.env := by rfl) (h2 : starEach [b, c] X.env = (false, eval b X.env) :: starEach [c] X.env := by rfl) (h3 : starEach [c] X.env = (false, eval c X.env) :: starEach [] X.env := by rfl) :
    PSD Tb B X (.Assign [.Tuple [.Name x px, .Name y py, .Name z pz] kt pt] (.Tuple [a, b, c] k2 pt2) pos) (par3D i j l f g h) := by
  refine PS.weaken (ps_par3 hc hN hi hj hl hij hil hjl hx hy hz (pa_cons ha (pa_cons hb (pa_cons hcc pa_nil h3) h2) h1) hw hs) fun D σ H ⟨W, F, ρ, s, q⟩ => ?_
  refine ⟨W, F, ρ, s, (Hold.bind q).mono fun av z => rpost_of fun W1 H1 v F1 e1 g1 s1 => ?_⟩
  refine ⟨W1, F1, ρ, s1, (Hold.bind z).mono fun bv z => rpost_of fun W2 H2 w F2 e2 g2 s2 => ?_⟩
  refine ⟨W2, F2, ρ, s2, (Hold.bind z).mono fun cv z => rpost_of fun W3 H3 u F3 e3 g3 s3 => ?_⟩
  refine ⟨v, w, u, rfl, ?_⟩
  obtain ⟨hc0, z⟩ := Hold.setV (Hold.bind z)
  obtain ⟨hb0, z⟩ := Hold.setV (Hold.bind z)
  obtain ⟨ha0, z⟩ := Hold.setV (Hold.bind z)
  have s4 := ((s3.put (i := l) g3 hc0).put (i := j) (g2.ext e3) hb0).put (i := i) (g1.ext (e2.trans e3)) ha0
  have e5 : ((σ.set i (some v)).set j (some w)).set l (some u) = ((σ.set l (some u)).set j (some w)).set i (some v) := by
    rw [List.set_comm (some v) (some w) hij, List.set_comm (some v) (some u) hil, List.set_comm (some w) (some u) hjl]
  rw [e5]
  exact z W3 _ H3 ((e1.trans e2).trans e3) s4
end
section
variable {P : Program} {w : World} {K : PySem.W.Frag} {mg : Str → Option Value} {base : Heap} {Tb : List (Addr × Str)} {B : Wd → V → (List PyData → T PyData) → Prop}
/-- THE RULE of a def, its code object known -/
theorem fn_gc {x : Str} {st : Stmt} {N ps : List Str} {k : Nat} {body : Env → T Out} {fd : FuncData}
    (F : FunD K x x (defArgs st) (defBody st) (defScope st) [] [] (He.ga K x) fd) (S : FnScope N ps (defScope st)) (hm : mg x = some (.ref (He.ga K x))) (hN : ps.length ≤ N.length)
    (hb : ∀ (kV doc pm : Value) (an : Option Addr) (cdv ct : Value) (us : List Value), us.length = ps.length → bindArgs (PySem.W.fnOf x x (defArgs st) (defBody st) (defScope st) .none kV doc pm an cdv ct) ⟨us, []⟩ = pure (ps.zip us))
    (h : ∀ (A : Around) (outer : List PySem.Env) (s : Shared) (H : Hp), Room k (CxD P w K mg base N x st (He.ga K x) (.ref (He.codeOf K (x, none))) A outer s H).A → (CxD P w K mg base N x st (He.ga K x) (.ref (He.codeOf K (x, none))) A outer s H).A.guards = some [] → PSsD Tb B (CxD P w K mg base N x st (He.ga K x) (.ref (He.codeOf K (x, none))) A outer s H) (defBody st) body) :
    FnG P w K mg base Tb B x st ps (k + 1) (runD ps.length N.length body) := by
  refine ⟨fd, F, F.bindsN hb, hm, fun A outer s H args us vs Q hr hg e0 hbt r hs => ?_⟩
  obtain ⟨oc, od, dV, kV, doc, pm, an, cdv, ct, osl, rfl, lk, hcd, _, _⟩ := F.ex
  obtain ⟨c, rfl⟩ := He.codeIn_ref hcd
  have ec : He.codeOf K (x, none) = c := He.codeOf_eq (p := (x, none)) lk rfl
  refine run_ofS lk hcd S hr e0 hbt r (sp_len rfl vs H Q E0 hs) fun hr' => ⟨_, PSs.nox (ec ▸ h A outer s H (ec ▸ hr') hg), run_read hN hs⟩
end
end Dn
end
section
set_option Elab.async false
set_option linter.all false
set_option maxRecDepth 100000
set_option maxHeartbeats 0
namespace LawHd
open PySem PySem.Spec PyProof.Rows L2
def top (i : Nat) : Stmt := PySem.Challenge.pw_pairsled_k94_whole_alike_papers.main.body.getD i (.Pass ⟨0, 0, 0, 0⟩)
def d_is_integer : He.DefD := ⟨("is_integer", none), "is_integer", "is_integer", defArgs (top 1), defBody (top 1), defScope (top 1), [], []⟩
def d_is_within : He.DefD := ⟨("is_within", none), "is_within", "is_within", defArgs (top 2), defBody (top 2), defScope (top 2), [], []⟩
def d_is_list : He.DefD := ⟨("is_list", none), "is_list", "is_list", defArgs (top 3), defBody (top 3), defScope (top 3), [], []⟩
def d_is_tuple : He.DefD := ⟨("is_tuple", none), "is_tuple", "is_tuple", defArgs (top 4), defBody (top 4), defScope (top 4), [], []⟩
def d_are_rising : He.DefD := ⟨("are_rising", none), "are_rising", "are_rising", defArgs (top 5), defBody (top 5), defScope (top 5), [], []⟩
def d_is_lot_of : He.DefD := ⟨("is_lot_of", none), "is_lot_of", "is_lot_of", defArgs (top 6), defBody (top 6), defScope (top 6), [], []⟩
def d_is_relation_of : He.DefD := ⟨("is_relation_of", none), "is_relation_of", "is_relation_of", defArgs (top 16), defBody (top 16), defScope (top 16), [], []⟩
def d_is_relation_value : He.DefD := ⟨("is_relation_value", none), "is_relation_value", "is_relation_value", defArgs (top 17), defBody (top 17), defScope (top 17), [], []⟩
def d_want_relation : He.DefD := ⟨("want_relation", none), "want_relation", "want_relation", defArgs (top 18), defBody (top 18), defScope (top 18), [], []⟩
def d_want_two : He.DefD := ⟨("want_two", none), "want_two", "want_two", defArgs (top 19), defBody (top 19), defScope (top 19), [], []⟩
def d_want_as_many : He.DefD := ⟨("want_as_many", none), "want_as_many", "want_as_many", defArgs (top 20), defBody (top 20), defScope (top 20), [], []⟩
def d_want_thing : He.DefD := ⟨("want_thing", none), "want_thing", "want_thing", defArgs (top 21), defBody (top 21), defScope (top 21), [], []⟩
def d_by_rule : He.DefD := ⟨("by_rule", none), "by_rule", "by_rule", defArgs (top 22), defBody (top 22), defScope (top 22), [], []⟩
def d_are_names_value : He.DefD := ⟨("are_names_value", none), "are_names_value", "are_names_value", defArgs (top 24), defBody (top 24), defScope (top 24), [], []⟩
def d_want_names : He.DefD := ⟨("want_names", none), "want_names", "want_names", defArgs (top 25), defBody (top 25), defScope (top 25), [], []⟩
def d_renamed_of : He.DefD := ⟨("renamed_of", none), "renamed_of", "renamed_of", defArgs (top 26), defBody (top 26), defScope (top 26), [], []⟩
def d_renamed : He.DefD := ⟨("renamed", none), "renamed", "renamed", defArgs (top 27), defBody (top 27), defScope (top 27), [], []⟩
def d_with_pair : He.DefD := ⟨("with_pair", none), "with_pair", "with_pair", defArgs (top 28), defBody (top 28), defScope (top 28), [], []⟩
def d_all_names : He.DefD := ⟨("all_names", none), "all_names", "all_names", defArgs (top 32), defBody (top 32), defScope (top 32), [], []⟩
def d_namings_of : He.DefD := ⟨("namings_of", none), "namings_of", "namings_of", defArgs (top 33), defBody (top 33), defScope (top 33), [], []⟩
def d_first_of : He.DefD := ⟨("first_of", none), "first_of", "first_of", defArgs (top 34), defBody (top 34), defScope (top 34), [], []⟩
def d_form_of : He.DefD := ⟨("form_of", none), "form_of", "form_of", defArgs (top 35), defBody (top 35), defScope (top 35), [], []⟩
def d_are_alike : He.DefD := ⟨("are_alike", none), "are_alike", "are_alike", defArgs (top 36), defBody (top 36), defScope (top 36), [], []⟩
def d_alike_paper : He.DefD := ⟨("alike_paper", none), "alike_paper", "alike_paper", defArgs (top 37), defBody (top 37), defScope (top 37), [], []⟩
def d_is_alike_paper : He.DefD := ⟨("is_alike_paper", none), "is_alike_paper", "is_alike_paper", defArgs (top 38), defBody (top 38), defScope (top 38), [], []⟩
def d_are_forms : He.DefD := ⟨("are_forms", none), "are_forms", "are_forms", defArgs (top 39), defBody (top 39), defScope (top 39), [], []⟩
def d__law_pot : He.DefD := ⟨("_law_pot", none), "_law_pot", "_law_pot", defArgs (top 41), defBody (top 41), defScope (top 41), [], []⟩
def d__law_draw : He.DefD := ⟨("_law_draw", none), "_law_draw", "_law_draw", defArgs (top 42), defBody (top 42), defScope (top 42), [], []⟩
def d__law_pick : He.DefD := ⟨("_law_pick", none), "_law_pick", "_law_pick", defArgs (top 43), defBody (top 43), defScope (top 43), [], []⟩
def d__law_mixed : He.DefD := ⟨("_law_mixed", none), "_law_mixed", "_law_mixed", defArgs (top 44), defBody (top 44), defScope (top 44), [], []⟩
def d__law_relation : He.DefD := ⟨("_law_relation", none), "_law_relation", "_law_relation", defArgs (top 45), defBody (top 45), defScope (top 45), [], []⟩
def d__law_renamed : He.DefD := ⟨("_law_renamed", none), "_law_renamed", "_law_renamed", defArgs (top 46), defBody (top 46), defScope (top 46), [], []⟩
def d__law_all_names : He.DefD := ⟨("_law_all_names", none), "_law_all_names", "_law_all_names", defArgs (top 47), defBody (top 47), defScope (top 47), [], []⟩
def d__law_first : He.DefD := ⟨("_law_first", none), "_law_first", "_law_first", defArgs (top 48), defBody (top 48), defScope (top 48), [], []⟩
def d__law_two_right : He.DefD := ⟨("_law_two_right", none), "_law_two_right", "_law_two_right", defArgs (top 49), defBody (top 49), defScope (top 49), [], []⟩
def d__law_right : He.DefD := ⟨("_law_right", none), "_law_right", "_law_right", defArgs (top 50), defBody (top 50), defScope (top 50), [], []⟩
def d_law : He.DefD := ⟨("law", none), "law", "law", defArgs (top 51), defBody (top 51), defScope (top 51), [], []⟩
def fn_0 : List He.DefD := [d_is_integer, d_is_within, d_is_list, d_is_tuple, d_are_rising, d_is_lot_of, d_is_relation_of, d_is_relation_value, d_want_relation, d_want_two, d_want_as_many, d_want_thing, d_by_rule, d_are_names_value, d_want_names, d_renamed_of, d_renamed, d_with_pair, d_all_names, d_namings_of]
def fn_1 : List He.DefD := [d_first_of, d_form_of, d_are_alike, d_alike_paper, d_is_alike_paper, d_are_forms, d__law_pot, d__law_draw, d__law_pick, d__law_mixed, d__law_relation, d__law_renamed, d__law_all_names, d__law_first, d__law_two_right, d__law_right, d_law]
def fn : List He.DefD := fn_0 ++ fn_1
def fa_0 : List He.Fa := [.glo "is_integer", .glo "is_within", .glo "is_list", .glo "is_tuple", .glo "are_rising", .glo "is_lot_of", .glo "is_relation_of", .glo "is_relation_value", .glo "want_relation", .glo "want_two", .glo "want_as_many", .glo "want_thing", .glo "by_rule", .glo "are_names_value", .glo "want_names", .glo "renamed_of", .glo "renamed", .glo "with_pair", .glo "all_names", .glo "namings_of"]
def fa_1 : List He.Fa := [.glo "first_of", .glo "form_of", .glo "are_alike", .glo "alike_paper", .glo "is_alike_paper", .glo "are_forms", .glo "_law_pot", .glo "_law_draw", .glo "_law_pick", .glo "_law_mixed", .glo "_law_relation", .glo "_law_renamed", .glo "_law_all_names", .glo "_law_first", .glo "_law_two_right", .glo "_law_right", .glo "law", .free "isinstance", .free "int", .free "bool"]
def fa_2 : List He.Fa := [.free "list", .free "tuple", .free "len", .free "all", .free "zip", .free "range", .free "set", .free "sorted", .free "str", .free "abs", .free "max", .free "divmod", .free "min", .free "repr", .int "MOST_THINGS" 6, .str "NAMES_WORD" "names", .str "FORMS_WORD" "forms"]
def fa : List He.Fa := fa_0 ++ fa_1 ++ fa_2
def tf : List He.Defn := [("renamed_of", none), ("with_pair", none)]
def loose_0 : List PySem.Str := ["is_integer", "is_within", "is_list", "is_tuple", "are_rising", "is_lot_of", "WhomError", "StateError", "InvalidRelation", "InvalidThing", "InvalidNames", "UnlikeThings", "MOST_THINGS", "is_relation_of", "is_relation_value", "want_relation", "want_two", "want_as_many", "want_thing", "by_rule"]
def loose_1 : List PySem.Str := ["are_names_value", "want_names", "renamed_of", "renamed", "with_pair", "NAMES_WORD", "FORMS_WORD", "all_names", "namings_of", "first_of", "form_of", "are_alike", "alike_paper", "is_alike_paper", "are_forms", "_law_pot", "_law_draw", "_law_pick", "_law_mixed", "_law_relation"]
def loose_2 : List PySem.Str := ["_law_renamed", "_law_all_names", "_law_first", "_law_two_right", "_law_right"]
def loose : List PySem.Str := loose_0 ++ loose_1 ++ loose_2
abbrev R : PySem.W.OpenRow := PySem.W.OpenLaw.row PySem.Challenge.rw_pairsled_k94_whole_alike_papers
def ex (K : PySem.W.Frag) : Bool := decide ((tf.map fun p => (He.cT K p).2).Nodup)
abbrev hk : PySem.W.Hook := He.hookX 6 fa fn [] tf ex
def ob (s : PySem.W.SharedT) : He.AlX := He.obsX 6 fa fn [] tf ex (HandSHeadRun.getT s)
theorem ob_eq (s : PySem.W.SharedT) : ob s = hk.obs s.abs := He.obsX_eq (HandSHeadRun.getT_eq s)
theorem run (w : World) : HandSHeadRun.RunEq R (PySem.W.view R.prog [51]) hk ob 4000 loose w := by
  intro os
  kernel_rfl
end LawHd
end
section
set_option Elab.async false
set_option linter.all false
set_option maxRecDepth 100000
set_option maxHeartbeats 0
namespace Wk
open PySem PySem.Spec PyProof.Rows L2 LamX Dn
theorem u64 {A : Around} (h : A.units + 200 < cLine) : A.units + 64 < cLine := by omega
def lamN : List Str := ["renamed_of", "with_pair"]
abbrev TbL (K : PySem.W.Frag) : List (Addr × Str) := lamN.map fun n => ((He.cT K (n, none)).2, (n ++ ".<locals>.") ++ "<lambda>")
structure Hb (K : PySem.W.Frag) (mg : Str → Option Value) (base : Heap) : Prop where
  tb : ∀ n ∈ lamN, TabB base mg (He.cT K (n, none)).1 (He.cT K (n, none)).2
structure Facts (K : PySem.W.Frag) (mg : Str → Option Value) : Prop where
  f_is_integer : ∃ fd, FunD K "is_integer" "is_integer" (defArgs (LawHd.top 1)) (defBody (LawHd.top 1)) (defScope (LawHd.top 1)) [] [] (He.ga K "is_integer") fd
  g_is_integer : mg "is_integer" = some (.ref (He.ga K "is_integer"))
  f_is_within : ∃ fd, FunD K "is_within" "is_within" (defArgs (LawHd.top 2)) (defBody (LawHd.top 2)) (defScope (LawHd.top 2)) [] [] (He.ga K "is_within") fd
  g_is_within : mg "is_within" = some (.ref (He.ga K "is_within"))
  f_is_list : ∃ fd, FunD K "is_list" "is_list" (defArgs (LawHd.top 3)) (defBody (LawHd.top 3)) (defScope (LawHd.top 3)) [] [] (He.ga K "is_list") fd
  g_is_list : mg "is_list" = some (.ref (He.ga K "is_list"))
  f_is_tuple : ∃ fd, FunD K "is_tuple" "is_tuple" (defArgs (LawHd.top 4)) (defBody (LawHd.top 4)) (defScope (LawHd.top 4)) [] [] (He.ga K "is_tuple") fd
  g_is_tuple : mg "is_tuple" = some (.ref (He.ga K "is_tuple"))
  f_are_rising : ∃ fd, FunD K "are_rising" "are_rising" (defArgs (LawHd.top 5)) (defBody (LawHd.top 5)) (defScope (LawHd.top 5)) [] [] (He.ga K "are_rising") fd
  g_are_rising : mg "are_rising" = some (.ref (He.ga K "are_rising"))
  f_is_lot_of : ∃ fd, FunD K "is_lot_of" "is_lot_of" (defArgs (LawHd.top 6)) (defBody (LawHd.top 6)) (defScope (LawHd.top 6)) [] [] (He.ga K "is_lot_of") fd
  g_is_lot_of : mg "is_lot_of" = some (.ref (He.ga K "is_lot_of"))
  f_is_relation_of : ∃ fd, FunD K "is_relation_of" "is_relation_of" (defArgs (LawHd.top 16)) (defBody (LawHd.top 16)) (defScope (LawHd.top 16)) [] [] (He.ga K "is_relation_of") fd
  g_is_relation_of : mg "is_relation_of" = some (.ref (He.ga K "is_relation_of"))
  f_is_relation_value : ∃ fd, FunD K "is_relation_value" "is_relation_value" (defArgs (LawHd.top 17)) (defBody (LawHd.top 17)) (defScope (LawHd.top 17)) [] [] (He.ga K "is_relation_value") fd
  g_is_relation_value : mg "is_relation_value" = some (.ref (He.ga K "is_relation_value"))
  f_want_relation : ∃ fd, FunD K "want_relation" "want_relation" (defArgs (LawHd.top 18)) (defBody (LawHd.top 18)) (defScope (LawHd.top 18)) [] [] (He.ga K "want_relation") fd
  g_want_relation : mg "want_relation" = some (.ref (He.ga K "want_relation"))
  f_want_as_many : ∃ fd, FunD K "want_as_many" "want_as_many" (defArgs (LawHd.top 20)) (defBody (LawHd.top 20)) (defScope (LawHd.top 20)) [] [] (He.ga K "want_as_many") fd
  g_want_as_many : mg "want_as_many" = some (.ref (He.ga K "want_as_many"))
  f_want_two : ∃ fd, FunD K "want_two" "want_two" (defArgs (LawHd.top 19)) (defBody (LawHd.top 19)) (defScope (LawHd.top 19)) [] [] (He.ga K "want_two") fd
  g_want_two : mg "want_two" = some (.ref (He.ga K "want_two"))
  f_want_thing : ∃ fd, FunD K "want_thing" "want_thing" (defArgs (LawHd.top 21)) (defBody (LawHd.top 21)) (defScope (LawHd.top 21)) [] [] (He.ga K "want_thing") fd
  g_want_thing : mg "want_thing" = some (.ref (He.ga K "want_thing"))
  f_by_rule : ∃ fd, FunD K "by_rule" "by_rule" (defArgs (LawHd.top 22)) (defBody (LawHd.top 22)) (defScope (LawHd.top 22)) [] [] (He.ga K "by_rule") fd
  g_by_rule : mg "by_rule" = some (.ref (He.ga K "by_rule"))
  f_are_names_value : ∃ fd, FunD K "are_names_value" "are_names_value" (defArgs (LawHd.top 24)) (defBody (LawHd.top 24)) (defScope (LawHd.top 24)) [] [] (He.ga K "are_names_value") fd
  g_are_names_value : mg "are_names_value" = some (.ref (He.ga K "are_names_value"))
  f_want_names : ∃ fd, FunD K "want_names" "want_names" (defArgs (LawHd.top 25)) (defBody (LawHd.top 25)) (defScope (LawHd.top 25)) [] [] (He.ga K "want_names") fd
  g_want_names : mg "want_names" = some (.ref (He.ga K "want_names"))
  f_renamed_of : ∃ fd, FunD K "renamed_of" "renamed_of" (defArgs (LawHd.top 26)) (defBody (LawHd.top 26)) (defScope (LawHd.top 26)) [] [] (He.ga K "renamed_of") fd
  g_renamed_of : mg "renamed_of" = some (.ref (He.ga K "renamed_of"))
  f_renamed : ∃ fd, FunD K "renamed" "renamed" (defArgs (LawHd.top 27)) (defBody (LawHd.top 27)) (defScope (LawHd.top 27)) [] [] (He.ga K "renamed") fd
  g_renamed : mg "renamed" = some (.ref (He.ga K "renamed"))
  f_with_pair : ∃ fd, FunD K "with_pair" "with_pair" (defArgs (LawHd.top 28)) (defBody (LawHd.top 28)) (defScope (LawHd.top 28)) [] [] (He.ga K "with_pair") fd
  g_with_pair : mg "with_pair" = some (.ref (He.ga K "with_pair"))
  f_all_names : ∃ fd, FunD K "all_names" "all_names" (defArgs (LawHd.top 32)) (defBody (LawHd.top 32)) (defScope (LawHd.top 32)) [] [] (He.ga K "all_names") fd
  g_all_names : mg "all_names" = some (.ref (He.ga K "all_names"))
  f_namings_of : ∃ fd, FunD K "namings_of" "namings_of" (defArgs (LawHd.top 33)) (defBody (LawHd.top 33)) (defScope (LawHd.top 33)) [] [] (He.ga K "namings_of") fd
  g_namings_of : mg "namings_of" = some (.ref (He.ga K "namings_of"))
  f_first_of : ∃ fd, FunD K "first_of" "first_of" (defArgs (LawHd.top 34)) (defBody (LawHd.top 34)) (defScope (LawHd.top 34)) [] [] (He.ga K "first_of") fd
  g_first_of : mg "first_of" = some (.ref (He.ga K "first_of"))
  f_form_of : ∃ fd, FunD K "form_of" "form_of" (defArgs (LawHd.top 35)) (defBody (LawHd.top 35)) (defScope (LawHd.top 35)) [] [] (He.ga K "form_of") fd
  g_form_of : mg "form_of" = some (.ref (He.ga K "form_of"))
  f_are_alike : ∃ fd, FunD K "are_alike" "are_alike" (defArgs (LawHd.top 36)) (defBody (LawHd.top 36)) (defScope (LawHd.top 36)) [] [] (He.ga K "are_alike") fd
  g_are_alike : mg "are_alike" = some (.ref (He.ga K "are_alike"))
  f_alike_paper : ∃ fd, FunD K "alike_paper" "alike_paper" (defArgs (LawHd.top 37)) (defBody (LawHd.top 37)) (defScope (LawHd.top 37)) [] [] (He.ga K "alike_paper") fd
  g_alike_paper : mg "alike_paper" = some (.ref (He.ga K "alike_paper"))
  f_are_forms : ∃ fd, FunD K "are_forms" "are_forms" (defArgs (LawHd.top 39)) (defBody (LawHd.top 39)) (defScope (LawHd.top 39)) [] [] (He.ga K "are_forms") fd
  g_are_forms : mg "are_forms" = some (.ref (He.ga K "are_forms"))
  f_is_alike_paper : ∃ fd, FunD K "is_alike_paper" "is_alike_paper" (defArgs (LawHd.top 38)) (defBody (LawHd.top 38)) (defScope (LawHd.top 38)) [] [] (He.ga K "is_alike_paper") fd
  g_is_alike_paper : mg "is_alike_paper" = some (.ref (He.ga K "is_alike_paper"))
  f__law_pot : ∃ fd, FunD K "_law_pot" "_law_pot" (defArgs (LawHd.top 41)) (defBody (LawHd.top 41)) (defScope (LawHd.top 41)) [] [] (He.ga K "_law_pot") fd
  g__law_pot : mg "_law_pot" = some (.ref (He.ga K "_law_pot"))
  f__law_draw : ∃ fd, FunD K "_law_draw" "_law_draw" (defArgs (LawHd.top 42)) (defBody (LawHd.top 42)) (defScope (LawHd.top 42)) [] [] (He.ga K "_law_draw") fd
  g__law_draw : mg "_law_draw" = some (.ref (He.ga K "_law_draw"))
  f__law_pick : ∃ fd, FunD K "_law_pick" "_law_pick" (defArgs (LawHd.top 43)) (defBody (LawHd.top 43)) (defScope (LawHd.top 43)) [] [] (He.ga K "_law_pick") fd
  g__law_pick : mg "_law_pick" = some (.ref (He.ga K "_law_pick"))
  f__law_mixed : ∃ fd, FunD K "_law_mixed" "_law_mixed" (defArgs (LawHd.top 44)) (defBody (LawHd.top 44)) (defScope (LawHd.top 44)) [] [] (He.ga K "_law_mixed") fd
  g__law_mixed : mg "_law_mixed" = some (.ref (He.ga K "_law_mixed"))
  f__law_relation : ∃ fd, FunD K "_law_relation" "_law_relation" (defArgs (LawHd.top 45)) (defBody (LawHd.top 45)) (defScope (LawHd.top 45)) [] [] (He.ga K "_law_relation") fd
  g__law_relation : mg "_law_relation" = some (.ref (He.ga K "_law_relation"))
  f__law_renamed : ∃ fd, FunD K "_law_renamed" "_law_renamed" (defArgs (LawHd.top 46)) (defBody (LawHd.top 46)) (defScope (LawHd.top 46)) [] [] (He.ga K "_law_renamed") fd
  g__law_renamed : mg "_law_renamed" = some (.ref (He.ga K "_law_renamed"))
  f__law_all_names : ∃ fd, FunD K "_law_all_names" "_law_all_names" (defArgs (LawHd.top 47)) (defBody (LawHd.top 47)) (defScope (LawHd.top 47)) [] [] (He.ga K "_law_all_names") fd
  g__law_all_names : mg "_law_all_names" = some (.ref (He.ga K "_law_all_names"))
  f__law_first : ∃ fd, FunD K "_law_first" "_law_first" (defArgs (LawHd.top 48)) (defBody (LawHd.top 48)) (defScope (LawHd.top 48)) [] [] (He.ga K "_law_first") fd
  g__law_first : mg "_law_first" = some (.ref (He.ga K "_law_first"))
  f__law_two_right : ∃ fd, FunD K "_law_two_right" "_law_two_right" (defArgs (LawHd.top 49)) (defBody (LawHd.top 49)) (defScope (LawHd.top 49)) [] [] (He.ga K "_law_two_right") fd
  g__law_two_right : mg "_law_two_right" = some (.ref (He.ga K "_law_two_right"))
  f__law_right : ∃ fd, FunD K "_law_right" "_law_right" (defArgs (LawHd.top 50)) (defBody (LawHd.top 50)) (defScope (LawHd.top 50)) [] [] (He.ga K "_law_right") fd
  g__law_right : mg "_law_right" = some (.ref (He.ga K "_law_right"))
  f_law : ∃ fd, FunD K "law" "law" (defArgs (LawHd.top 51)) (defBody (LawHd.top 51)) (defScope (LawHd.top 51)) [] [] (He.ga K "law") fd
  g_law : mg "law" = some (.ref (He.ga K "law"))
  b_isinstance : mg "isinstance" = none
  b_int : mg "int" = none
  b_bool : mg "bool" = none
  b_list : mg "list" = none
  b_tuple : mg "tuple" = none
  b_len : mg "len" = none
  b_all : mg "all" = none
  b_zip : mg "zip" = none
  b_range : mg "range" = none
  b_set : mg "set" = none
  b_sorted : mg "sorted" = none
  b_str : mg "str" = none
  b_abs : mg "abs" = none
  b_max : mg "max" = none
  b_divmod : mg "divmod" = none
  b_min : mg "min" = none
  b_repr : mg "repr" = none
  c_MOST_THINGS : ∃ t, mg "MOST_THINGS" = some (.int 6 t)
  c_NAMES_WORD : ∃ t, mg "NAMES_WORD" = some (.str "names" t)
  c_FORMS_WORD : ∃ t, mg "FORMS_WORD" = some (.str "forms" t)
  tabD : (lamN.map fun n => (He.cT K (n, none)).2).Nodup
theorem Hb.mono {K : PySem.W.Frag} {mg : Str → Option Value} {base base' : Heap} (h : Hb K mg base) (k : ∀ b o, base.get? b = some o → base'.get? b = some o) : Hb K mg base' :=
  ⟨fun n hn => ⟨(h.tb n hn).code.keeps k, (h.tb n hn).bm.keeps k, (h.tb n hn).gP⟩⟩
theorem tab_one {α β : Type} [DecidableEq α] {f : β → α} : ∀ {l : List β} {a b : β}, (l.map f).Nodup → a ∈ l → b ∈ l → f a = f b → a = b
  | [], _, _, _, h, _, _ => by cases h
  | x :: l, a, b, hn, ha, hb, e => by
    rw [List.map_cons, List.nodup_cons] at hn
    by_cases ea : a = x
    · by_cases eb : b = x
      · rw [ea, eb]
      · exact absurd (List.mem_map.mpr ⟨b, (List.mem_cons.mp hb).resolve_left eb, by rw [← e, ea]⟩) hn.1
    · by_cases eb : b = x
      · exact absurd (List.mem_map.mpr ⟨a, (List.mem_cons.mp ha).resolve_left ea, by rw [e, eb]⟩) hn.1
      · exact tab_one hn.2 ((List.mem_cons.mp ha).resolve_left ea) ((List.mem_cons.mp hb).resolve_left eb) e
theorem Facts.tabU {K : PySem.W.Frag} {mg : Str → Option Value} (M : Facts K mg) (n : Str) (hn : n ∈ lamN) : ∀ p ∈ TbL K, p.1 = (He.cT K (n, none)).2 → p.2 = (n ++ ".<locals>.") ++ "<lambda>" := by
  intro p hp e
  obtain ⟨m, hm, rfl⟩ := List.mem_map.mp hp
  rw [tab_one M.tabD hm hn e]
section
variable {P : Program} {w : World} {K : PySem.W.Frag} {mg : Str → Option Value}
noncomputable def b_is_integer : Dn.Env → T Out := sRet (andA (isA "int" (vD 0)) (nA (isA "bool" (vD 0))))
noncomputable def d_is_integer : List AV → T AV := shut (runD 1 1 b_is_integer)
theorem q_is_integer : d_is_integer = runD 1 1 b_is_integer := shut_eq _
theorem s_is_integer : FnScope ["value"] ["value"] (defScope (LawHd.top 1)) := ⟨rfl, rfl, rfl, by decide +kernel, rfl, by decide +kernel, by decide +kernel⟩
theorem g_is_integer (M : Facts K mg) {base : Heap} (hb : Hb K mg base) : FnG P w K mg base (TbL K) (Cal P w K mg base (TbL K)) "is_integer" (LawHd.top 1) ["value"] 1 d_is_integer := by
  rw [q_is_integer]
  obtain ⟨fd, F⟩ := M.f_is_integer
  refine fn_g (N := ["value"]) F s_is_integer M.g_is_integer (by decide) (fun _ _ _ _ _ _ us hl => match us, hl with | [_], _ => rfl) fun cdv A outer s H hr hgd => ?_
  have hN : (["value"] : List Str).Nodup := s_is_integer.nd
  have hu := room200 hr
  unfold b_is_integer
  exact psd_one (psd_ret (pd_and (pd_isi (pb_var (pv 0)) (by exact rfl) M.b_isinstance (by exact rfl) M.b_int (by decide +kernel) kit_int) (pd_one (pd_not (pd_isi (pb_var (pv 0)) (by exact rfl) M.b_isinstance (by exact rfl) M.b_bool (by decide +kernel) kit_bool)))))
noncomputable def b_is_within : Dn.Env → T Out := sRet (andA (cal (calling 1 d_is_integer) (aC (vA 0) (a0))) (chA leD leD (vD 1) (vD 0) (vD 2)))
noncomputable def d_is_within : List AV → T AV := shut (runD 3 3 b_is_within)
theorem q_is_within : d_is_within = runD 3 3 b_is_within := shut_eq _
theorem s_is_within : FnScope ["value", "least", "most"] ["value", "least", "most"] (defScope (LawHd.top 2)) := ⟨rfl, rfl, rfl, by decide +kernel, rfl, by decide +kernel, by decide +kernel⟩
theorem g_is_within (M : Facts K mg) {base : Heap} (hb : Hb K mg base) : FnG P w K mg base (TbL K) (Cal P w K mg base (TbL K)) "is_within" (LawHd.top 2) ["value", "least", "most"] 2 d_is_within := by
  rw [q_is_within]
  obtain ⟨fd, F⟩ := M.f_is_within
  refine fn_g (N := ["value", "least", "most"]) F s_is_within M.g_is_within (by decide) (fun _ _ _ _ _ _ us hl => match us, hl with | [_, _, _], _ => rfl) fun cdv A outer s H hr hgd => ?_
  have hN : (["value", "least", "most"] : List Str).Nodup := s_is_within.nd
  have hu := room200 hr
  unfold b_is_within
  exact psd_one (psd_ret (pd_and (pg_call (g_is_integer M hb) (hr.mono (by decide)) hgd (by exact rfl) (pad_cons (pd_var (pv 0)) (pad_nil))) (pd_one (ptd_chain (Dn.OpR.or op_le (op_leD hu)) (Dn.OpR.or op_le (op_leD hu)) ok_ord ok_ord (pb_var (pv 1)) (pb_var (pv 0)) (pb_var (pv 2))))))
noncomputable def b_is_list : Dn.Env → T Out := sRet (is2A "list" "tuple" (vD 0))
noncomputable def d_is_list : List AV → T AV := shut (runD 1 1 b_is_list)
theorem q_is_list : d_is_list = runD 1 1 b_is_list := shut_eq _
theorem s_is_list : FnScope ["value"] ["value"] (defScope (LawHd.top 3)) := ⟨rfl, rfl, rfl, by decide +kernel, rfl, by decide +kernel, by decide +kernel⟩
theorem g_is_list (M : Facts K mg) {base : Heap} (hb : Hb K mg base) : FnG P w K mg base (TbL K) (Cal P w K mg base (TbL K)) "is_list" (LawHd.top 3) ["value"] 1 d_is_list := by
  rw [q_is_list]
  obtain ⟨fd, F⟩ := M.f_is_list
  refine fn_g (N := ["value"]) F s_is_list M.g_is_list (by decide) (fun _ _ _ _ _ _ us hl => match us, hl with | [_], _ => rfl) fun cdv A outer s H hr hgd => ?_
  have hN : (["value"] : List Str).Nodup := s_is_list.nd
  have hu := room200 hr
  unfold b_is_list
  exact psd_one (psd_ret (pd_isi2 (pb_var (pv 0)) (by exact rfl) M.b_isinstance (by exact rfl) M.b_list (by decide +kernel) (by exact rfl) M.b_tuple (by decide +kernel) kit_list kit_tuple))
noncomputable def b_is_tuple : Dn.Env → T Out := sRet (andA (isA "tuple" (vD 0)) (bin eqA (oA (cal lenD (bC (vD 0) (b0)))) (vD 1)))
noncomputable def d_is_tuple : List AV → T AV := shut (runD 2 2 b_is_tuple)
theorem q_is_tuple : d_is_tuple = runD 2 2 b_is_tuple := shut_eq _
theorem s_is_tuple : FnScope ["value", "many"] ["value", "many"] (defScope (LawHd.top 4)) := ⟨rfl, rfl, rfl, by decide +kernel, rfl, by decide +kernel, by decide +kernel⟩
theorem g_is_tuple (M : Facts K mg) {base : Heap} (hb : Hb K mg base) : FnG P w K mg base (TbL K) (Cal P w K mg base (TbL K)) "is_tuple" (LawHd.top 4) ["value", "many"] 1 d_is_tuple := by
  rw [q_is_tuple]
  obtain ⟨fd, F⟩ := M.f_is_tuple
  refine fn_g (N := ["value", "many"]) F s_is_tuple M.g_is_tuple (by decide) (fun _ _ _ _ _ _ us hl => match us, hl with | [_, _], _ => rfl) fun cdv A outer s H hr hgd => ?_
  have hN : (["value", "many"] : List Str).Nodup := s_is_tuple.nd
  have hu := room200 hr
  unfold b_is_tuple
  exact psd_one (psd_ret (pd_and (pd_isi (pb_var (pv 0)) (by exact rfl) M.b_isinstance (by exact rfl) M.b_tuple (by decide +kernel) kit_tuple) (pd_one (pd_cmp (Dn.OpR.or op_eq (op_eqD (u64 hu))) ok_eqA (pb_of (pd_blt call_len_seq ok_len (by exact rfl) M.b_len (by decide +kernel) (pab_cons (pb_var (pv 0)) (pab_nil)))) (pb_var (pv 1)) rfl))))
noncomputable def b_are_rising : Dn.Env → T Out := sRet (cal allD (bC (oA (lcD [1, 2] (itZ (aC (vA 0) (aC (slA (vD 0) (oI (oA (kA (.int 1)))) (o0)) (a0)))) (tupG 2 (consG (gN 1) (consG (gN 2) (g0)))) (lcTest0) (bin ltD (vD 1) (vD 2)))) (b0)))
noncomputable def d_are_rising : List AV → T AV := shut (runD 1 3 b_are_rising)
theorem q_are_rising : d_are_rising = runD 1 3 b_are_rising := shut_eq _
theorem s_are_rising : FnScope ["values", "near", "far"] ["values"] (defScope (LawHd.top 5)) := ⟨rfl, rfl, rfl, by decide +kernel, rfl, by decide +kernel, by decide +kernel⟩
theorem g_are_rising (M : Facts K mg) {base : Heap} (hb : Hb K mg base) : FnG P w K mg base (TbL K) (Cal P w K mg base (TbL K)) "are_rising" (LawHd.top 5) ["values"] 1 d_are_rising := by
  rw [q_are_rising]
  obtain ⟨fd, F⟩ := M.f_are_rising
  refine fn_g (N := ["values", "near", "far"]) F s_are_rising M.g_are_rising (by decide) (fun _ _ _ _ _ _ us hl => match us, hl with | [_], _ => rfl) fun cdv A outer s H hr hgd => ?_
  have hN : (["values", "near", "far"] : List Str).Nodup := s_are_rising.nd
  have hu := room200 hr
  unfold b_are_rising
  exact psd_one (psd_ret (pd_blt (cr_all rfl) ok_bools (by exact rfl) M.b_all (by decide +kernel) (pab_cons (pb_of (pd_lc (own := [("near", 1), ("far", 2)]) (g := tupG 2 (consG (gN 1) (consG (gN 2) (g0)))) (t := lcTest0) (f := bin ltD (vD 1) (vD 2)) rfl hN (pid_zip (by exact rfl) M.b_zip (pad_cons (pd_var (pv 0)) (pad_cons (pd_slice (pb_var (pv 0)) (po_some' (pb_of (pd_int))) (po_none')) (pad_nil)))) (blkOk_by (by kernel_rfl)) (only_tup (only_cons (only_name) (only_cons (only_name) (only_nil)))) (fun _ _ _ _ _ => pgd_tup rfl (pgsd_cons (pgd_name (pg_name hN rfl (by first | exact Or.inl rfl | exact Or.inr rfl | exact Or.inr (Or.inl rfl) | exact Or.inr (Or.inr rfl)))) (pgsd_cons (pgd_name (pg_name hN rfl (by first | exact Or.inl rfl | exact Or.inr rfl | exact Or.inr (Or.inl rfl) | exact Or.inr (Or.inr rfl)))) (pgsd_nil)))) (fun _ _ _ _ _ => pts_d0) (fun _ _ _ _ _ => pd_cmp (Dn.OpR.or op_lt (op_ltD hu)) ok_ord (pb_var (pv 1)) (pb_var (pv 2)) rfl))) (pab_nil))))
noncomputable def b_is_lot_of : Dn.Env → T Out := sRet (andA (isA "tuple" (vD 0)) (andA (cal allD (bC (oA (lcD [2] (itS (vA 0)) (gN 2) (lcTest0) (cal (calling 3 d_is_within) (aC (vA 2) (aC (kA (.int 0)) (aC (bin subD (vD 1) (oA (kA (.int 1)))) (a0))))))) (b0))) (cal (calling 1 d_are_rising) (aC (vA 0) (a0)))))
noncomputable def d_is_lot_of : List AV → T AV := shut (runD 2 3 b_is_lot_of)
theorem q_is_lot_of : d_is_lot_of = runD 2 3 b_is_lot_of := shut_eq _
theorem s_is_lot_of : FnScope ["value", "many", "one"] ["value", "many"] (defScope (LawHd.top 6)) := ⟨rfl, rfl, rfl, by decide +kernel, rfl, by decide +kernel, by decide +kernel⟩
theorem g_is_lot_of (M : Facts K mg) {base : Heap} (hb : Hb K mg base) : FnG P w K mg base (TbL K) (Cal P w K mg base (TbL K)) "is_lot_of" (LawHd.top 6) ["value", "many"] 3 d_is_lot_of := by
  rw [q_is_lot_of]
  obtain ⟨fd, F⟩ := M.f_is_lot_of
  refine fn_g (N := ["value", "many", "one"]) F s_is_lot_of M.g_is_lot_of (by decide) (fun _ _ _ _ _ _ us hl => match us, hl with | [_, _], _ => rfl) fun cdv A outer s H hr hgd => ?_
  have hN : (["value", "many", "one"] : List Str).Nodup := s_is_lot_of.nd
  have hu := room200 hr
  unfold b_is_lot_of
  exact psd_one (psd_ret (pd_and (pd_isi (pb_var (pv 0)) (by exact rfl) M.b_isinstance (by exact rfl) M.b_tuple (by decide +kernel) kit_tuple) (pd_and (pd_blt (cr_all rfl) ok_bools (by exact rfl) M.b_all (by decide +kernel) (pab_cons (pb_of (pd_lc (own := [("one", 2)]) (g := gN 2) (t := lcTest0) (f := cal (calling 3 d_is_within) (aC (vA 2) (aC (kA (.int 0)) (aC (bin subD (vD 1) (oA (kA (.int 1)))) (a0))))) rfl hN (pid_seq (pd_var (pv 0))) (blkOk_by (by kernel_rfl)) (only_name) (fun _ _ _ _ _ => pgd_name (pg_name hN rfl (by first | exact Or.inl rfl | exact Or.inr rfl | exact Or.inr (Or.inl rfl) | exact Or.inr (Or.inr rfl)))) (fun _ _ _ _ _ => pts_d0) (fun _ _ _ _ _ => pg_call (g_is_within M hb) (hr.mono (by decide)) hgd (by exact rfl) (pad_cons (pd_var (pv 2)) (pad_cons (pd_int) (pad_cons (pd_op op_sub ok_sub (pb_var (pv 1)) (pb_of (pd_int))) (pad_nil))))))) (pab_nil))) (pd_one (pg_call (g_are_rising M hb) (hr.mono (by decide)) hgd (by exact rfl) (pad_cons (pd_var (pv 0)) (pad_nil)))))))
noncomputable def b_is_relation_of : Dn.Env → T Out := sRet (andA (isA "tuple" (vD 1)) (andA (bin eqA (oA (cal lenD (bC (vD 1) (b0)))) (vD 0)) (cal allD (bC (oA (lcD [2] (itS (vA 1)) (gN 2) (lcTest0) (cal (calling 2 d_is_lot_of) (aC (vA 2) (aC (vA 0) (a0)))))) (b0)))))
noncomputable def d_is_relation_of : List AV → T AV := shut (runD 2 3 b_is_relation_of)
theorem q_is_relation_of : d_is_relation_of = runD 2 3 b_is_relation_of := shut_eq _
theorem s_is_relation_of : FnScope ["things", "value", "row"] ["things", "value"] (defScope (LawHd.top 16)) := ⟨rfl, rfl, rfl, by decide +kernel, rfl, by decide +kernel, by decide +kernel⟩
theorem g_is_relation_of (M : Facts K mg) {base : Heap} (hb : Hb K mg base) : FnG P w K mg base (TbL K) (Cal P w K mg base (TbL K)) "is_relation_of" (LawHd.top 16) ["things", "value"] 4 d_is_relation_of := by
  rw [q_is_relation_of]
  obtain ⟨fd, F⟩ := M.f_is_relation_of
  refine fn_g (N := ["things", "value", "row"]) F s_is_relation_of M.g_is_relation_of (by decide) (fun _ _ _ _ _ _ us hl => match us, hl with | [_, _], _ => rfl) fun cdv A outer s H hr hgd => ?_
  have hN : (["things", "value", "row"] : List Str).Nodup := s_is_relation_of.nd
  have hu := room200 hr
  unfold b_is_relation_of
  exact psd_one (psd_ret (pd_and (pd_isi (pb_var (pv 1)) (by exact rfl) M.b_isinstance (by exact rfl) M.b_tuple (by decide +kernel) kit_tuple) (pd_and (pd_cmp (Dn.OpR.or op_eq (op_eqD (u64 hu))) ok_eqA (pb_of (pd_blt call_len_seq ok_len (by exact rfl) M.b_len (by decide +kernel) (pab_cons (pb_var (pv 1)) (pab_nil)))) (pb_var (pv 0)) rfl) (pd_one (pd_blt (cr_all rfl) ok_bools (by exact rfl) M.b_all (by decide +kernel) (pab_cons (pb_of (pd_lc (own := [("row", 2)]) (g := gN 2) (t := lcTest0) (f := cal (calling 2 d_is_lot_of) (aC (vA 2) (aC (vA 0) (a0)))) rfl hN (pid_seq (pd_var (pv 1))) (blkOk_by (by kernel_rfl)) (only_name) (fun _ _ _ _ _ => pgd_name (pg_name hN rfl (by first | exact Or.inl rfl | exact Or.inr rfl | exact Or.inr (Or.inl rfl) | exact Or.inr (Or.inr rfl)))) (fun _ _ _ _ _ => pts_d0) (fun _ _ _ _ _ => pg_call (g_is_lot_of M hb) (hr.mono (by decide)) hgd (by exact rfl) (pad_cons (pd_var (pv 2)) (pad_cons (pd_var (pv 0)) (pad_nil)))))) (pab_nil)))))))
noncomputable def b_is_relation_value : Dn.Env → T Out := sRet (andA (isA "tuple" (vD 0)) (andA (chA leD leD (oA (kA (.int 1))) (oA (cal lenD (bC (vD 0) (b0)))) (oA (kA (.int 6)))) (cal (calling 2 d_is_relation_of) (aC (cal lenD (bC (vD 0) (b0))) (aC (vA 0) (a0))))))
noncomputable def d_is_relation_value : List AV → T AV := shut (runD 1 1 b_is_relation_value)
theorem q_is_relation_value : d_is_relation_value = runD 1 1 b_is_relation_value := shut_eq _
theorem s_is_relation_value : FnScope ["value"] ["value"] (defScope (LawHd.top 17)) := ⟨rfl, rfl, rfl, by decide +kernel, rfl, by decide +kernel, by decide +kernel⟩
theorem g_is_relation_value (M : Facts K mg) {base : Heap} (hb : Hb K mg base) : FnG P w K mg base (TbL K) (Cal P w K mg base (TbL K)) "is_relation_value" (LawHd.top 17) ["value"] 5 d_is_relation_value := by
  rw [q_is_relation_value]
  obtain ⟨fd, F⟩ := M.f_is_relation_value
  refine fn_g (N := ["value"]) F s_is_relation_value M.g_is_relation_value (by decide) (fun _ _ _ _ _ _ us hl => match us, hl with | [_], _ => rfl) fun cdv A outer s H hr hgd => ?_
  have hN : (["value"] : List Str).Nodup := s_is_relation_value.nd
  have hu := room200 hr
  unfold b_is_relation_value
  exact psd_one (psd_ret (pd_and (pd_isi (pb_var (pv 0)) (by exact rfl) M.b_isinstance (by exact rfl) M.b_tuple (by decide +kernel) kit_tuple) (pd_and (ptd_chain (Dn.OpR.or op_le (op_leD hu)) (Dn.OpR.or op_le (op_leD hu)) ok_ord ok_ord (pb_of (pd_int)) (pb_of (pd_blt call_len_seq ok_len (by exact rfl) M.b_len (by decide +kernel) (pab_cons (pb_var (pv 0)) (pab_nil)))) (pb_of (pd_gint rfl M.c_MOST_THINGS.choose_spec))) (pd_one (pg_call (g_is_relation_of M hb) (hr.mono (by decide)) hgd (by exact rfl) (pad_cons (pd_blt call_len_seq ok_len (by exact rfl) M.b_len (by decide +kernel) (pab_cons (pb_var (pv 0)) (pab_nil))) (pad_cons (pd_var (pv 0)) (pad_nil))))))))
noncomputable def b_want_relation : Dn.Env → T Out := ifD (tNot (tB (cal (calling 1 d_is_relation_value) (aC (vA 0) (a0))))) (sErr) (sNil)
noncomputable def d_want_relation : List AV → T AV := shut (runD 1 1 b_want_relation)
theorem q_want_relation : d_want_relation = runD 1 1 b_want_relation := shut_eq _
theorem s_want_relation : FnScope ["relation"] ["relation"] (defScope (LawHd.top 18)) := ⟨rfl, rfl, rfl, by decide +kernel, rfl, by decide +kernel, by decide +kernel⟩
theorem g_want_relation (M : Facts K mg) {base : Heap} (hb : Hb K mg base) : FnG P w K mg base (TbL K) (Cal P w K mg base (TbL K)) "want_relation" (LawHd.top 18) ["relation"] 6 d_want_relation := by
  rw [q_want_relation]
  obtain ⟨fd, F⟩ := M.f_want_relation
  refine fn_g (N := ["relation"]) F s_want_relation M.g_want_relation (by decide) (fun _ _ _ _ _ _ us hl => match us, hl with | [_], _ => rfl) fun cdv A outer s H hr hgd => ?_
  have hN : (["relation"] : List Str).Nodup := s_want_relation.nd
  have hu := room200 hr
  unfold b_want_relation
  exact psd_one (psd_if (ptd_not (ptd_val (pg_call (g_is_relation_value M hb) (hr.mono (by decide)) hgd (by exact rfl) (pad_cons (pd_var (pv 0)) (pad_nil))))) (psd_one (psd_never)) (psd_nil))
noncomputable def b_want_as_many : Dn.Env → T Out := ifD (tB (bin neA (oA (cal lenD (bC (vD 0) (b0)))) (oA (cal lenD (bC (vD 1) (b0)))))) (sErr) (sNil)
noncomputable def d_want_as_many : List AV → T AV := shut (runD 2 2 b_want_as_many)
theorem q_want_as_many : d_want_as_many = runD 2 2 b_want_as_many := shut_eq _
theorem s_want_as_many : FnScope ["relation", "other"] ["relation", "other"] (defScope (LawHd.top 20)) := ⟨rfl, rfl, rfl, by decide +kernel, rfl, by decide +kernel, by decide +kernel⟩
theorem g_want_as_many (M : Facts K mg) {base : Heap} (hb : Hb K mg base) : FnG P w K mg base (TbL K) (Cal P w K mg base (TbL K)) "want_as_many" (LawHd.top 20) ["relation", "other"] 1 d_want_as_many := by
  rw [q_want_as_many]
  obtain ⟨fd, F⟩ := M.f_want_as_many
  refine fn_g (N := ["relation", "other"]) F s_want_as_many M.g_want_as_many (by decide) (fun _ _ _ _ _ _ us hl => match us, hl with | [_, _], _ => rfl) fun cdv A outer s H hr hgd => ?_
  have hN : (["relation", "other"] : List Str).Nodup := s_want_as_many.nd
  have hu := room200 hr
  unfold b_want_as_many
  exact psd_one (psd_if (ptd_cmp (Dn.OpR.or op_ne (op_neD (u64 hu))) ok_neA (pb_of (pd_blt call_len_seq ok_len (by exact rfl) M.b_len (by decide +kernel) (pab_cons (pb_var (pv 0)) (pab_nil)))) (pb_of (pd_blt call_len_seq ok_len (by exact rfl) M.b_len (by decide +kernel) (pab_cons (pb_var (pv 1)) (pab_nil)))) rfl) (psd_one (psd_never)) (psd_nil))
noncomputable def b_want_two : Dn.Env → T Out := seqD (sEx (cal (calling 1 d_want_relation) (aC (vA 0) (a0)))) (seqD (sEx (cal (calling 1 d_want_relation) (aC (vA 1) (a0)))) (sEx (cal (calling 2 d_want_as_many) (aC (vA 0) (aC (vA 1) (a0))))))
noncomputable def d_want_two : List AV → T AV := shut (runD 2 2 b_want_two)
theorem q_want_two : d_want_two = runD 2 2 b_want_two := shut_eq _
theorem s_want_two : FnScope ["relation", "other"] ["relation", "other"] (defScope (LawHd.top 19)) := ⟨rfl, rfl, rfl, by decide +kernel, rfl, by decide +kernel, by decide +kernel⟩
theorem g_want_two (M : Facts K mg) {base : Heap} (hb : Hb K mg base) : FnG P w K mg base (TbL K) (Cal P w K mg base (TbL K)) "want_two" (LawHd.top 19) ["relation", "other"] 7 d_want_two := by
  rw [q_want_two]
  obtain ⟨fd, F⟩ := M.f_want_two
  refine fn_g (N := ["relation", "other"]) F s_want_two M.g_want_two (by decide) (fun _ _ _ _ _ _ us hl => match us, hl with | [_, _], _ => rfl) fun cdv A outer s H hr hgd => ?_
  have hN : (["relation", "other"] : List Str).Nodup := s_want_two.nd
  have hu := room200 hr
  unfold b_want_two
  exact psd_cons (psd_expr (pg_call (g_want_relation M hb) (hr.mono (by decide)) hgd (by exact rfl) (pad_cons (pd_var (pv 0)) (pad_nil))))
      (psd_cons (psd_expr (pg_call (g_want_relation M hb) (hr.mono (by decide)) hgd (by exact rfl) (pad_cons (pd_var (pv 1)) (pad_nil))))
      (psd_one (psd_expr (pg_call (g_want_as_many M hb) (hr.mono (by decide)) hgd (by exact rfl) (pad_cons (pd_var (pv 0)) (pad_cons (pd_var (pv 1)) (pad_nil)))))))
noncomputable def b_want_thing : Dn.Env → T Out := ifD (tNot (tB (cal (calling 3 d_is_within) (aC (vA 1) (aC (kA (.int 0)) (aC (bin subD (oA (cal lenD (bC (vD 0) (b0)))) (oA (kA (.int 1)))) (a0))))))) (sErr) (sNil)
noncomputable def d_want_thing : List AV → T AV := shut (runD 2 2 b_want_thing)
theorem q_want_thing : d_want_thing = runD 2 2 b_want_thing := shut_eq _
theorem s_want_thing : FnScope ["relation", "thing"] ["relation", "thing"] (defScope (LawHd.top 21)) := ⟨rfl, rfl, rfl, by decide +kernel, rfl, by decide +kernel, by decide +kernel⟩
theorem g_want_thing (M : Facts K mg) {base : Heap} (hb : Hb K mg base) : FnG P w K mg base (TbL K) (Cal P w K mg base (TbL K)) "want_thing" (LawHd.top 21) ["relation", "thing"] 3 d_want_thing := by
  rw [q_want_thing]
  obtain ⟨fd, F⟩ := M.f_want_thing
  refine fn_g (N := ["relation", "thing"]) F s_want_thing M.g_want_thing (by decide) (fun _ _ _ _ _ _ us hl => match us, hl with | [_, _], _ => rfl) fun cdv A outer s H hr hgd => ?_
  have hN : (["relation", "thing"] : List Str).Nodup := s_want_thing.nd
  have hu := room200 hr
  unfold b_want_thing
  exact psd_one (psd_if (ptd_not (ptd_val (pg_call (g_is_within M hb) (hr.mono (by decide)) hgd (by exact rfl) (pad_cons (pd_var (pv 1)) (pad_cons (pd_int) (pad_cons (pd_op op_sub ok_sub (pb_of (pd_blt call_len_seq ok_len (by exact rfl) M.b_len (by decide +kernel) (pab_cons (pb_var (pv 0)) (pab_nil)))) (pb_of (pd_int))) (pad_nil))))))) (psd_one (psd_never)) (psd_nil))
noncomputable def b_by_rule : Dn.Env → T Out := sRet (cal tupleD (bC (oA (lcD [3] (itR (vD 0)) (gN 3) (lcTest0) (cal tupleD (bC (oA (lcD [2] (itR (vD 0)) (gN 2) (tB (callV 1 (aC (vA 3) (aC (vA 2) (a0))))) (vA 2))) (b0))))) (b0)))
noncomputable def d_by_rule : List AV → T AV := shut (runD 2 4 b_by_rule)
theorem q_by_rule : d_by_rule = runD 2 4 b_by_rule := shut_eq _
theorem s_by_rule : FnScope ["things", "rule", "late", "one"] ["things", "rule"] (defScope (LawHd.top 22)) := ⟨rfl, rfl, rfl, by decide +kernel, rfl, by decide +kernel, by decide +kernel⟩
theorem g_by_rule (M : Facts K mg) {base : Heap} (hb : Hb K mg base) : FnG P w K mg base (TbL K) (Cal P w K mg base (TbL K)) "by_rule" (LawHd.top 22) ["things", "rule"] 25 d_by_rule := by
  rw [q_by_rule]
  obtain ⟨fd, F⟩ := M.f_by_rule
  refine fn_g (N := ["things", "rule", "late", "one"]) F s_by_rule M.g_by_rule (by decide) (fun _ _ _ _ _ _ us hl => match us, hl with | [_, _], _ => rfl) fun cdv A outer s H hr hgd => ?_
  have hN : (["things", "rule", "late", "one"] : List Str).Nodup := s_by_rule.nd
  have hu := room200 hr
  unfold b_by_rule
  exact psd_one (psd_ret (pd_ty call_tuple_of ok_tuple (by exact rfl) M.b_tuple (by decide +kernel) (pab_cons (pb_of (pd_lc (own := [("one", 3)]) (g := gN 3) (t := lcTest0) (f := cal tupleD (bC (oA (lcD [2] (itR (vD 0)) (gN 2) (tB (callV 1 (aC (vA 3) (aC (vA 2) (a0))))) (vA 2))) (b0))) rfl hN (pid_range1 (by exact rfl) M.b_range (pb_var (pv 0))) (blkOk_by (by kernel_rfl)) (only_name) (fun _ _ _ _ _ => pgd_name (pg_name hN rfl (by first | exact Or.inl rfl | exact Or.inr rfl | exact Or.inr (Or.inl rfl) | exact Or.inr (Or.inr rfl)))) (fun _ _ _ _ _ => pts_d0) (fun _ _ _ _ _ => pd_ty call_tuple_of ok_tuple (by exact rfl) M.b_tuple (by decide +kernel) (pab_cons (pb_of (pd_lc (own := [("late", 2)]) (g := gN 2) (t := tB (callV 1 (aC (vA 3) (aC (vA 2) (a0))))) (f := vA 2) rfl hN (pid_range1 (by exact rfl) M.b_range (pb_var (pv 0))) (blkOk_by (by kernel_rfl)) (only_name) (fun _ _ _ _ _ => pgd_name (pg_name hN rfl (by first | exact Or.inl rfl | exact Or.inr rfl | exact Or.inr (Or.inl rfl) | exact Or.inr (Or.inr rfl)))) (fun _ _ _ _ _ => pts_d1 (ptd_val (pd_callV (hr.mono (by decide)) hgd (pad_cons (pd_var (pv 3)) (pad_cons (pd_var (pv 2)) (pad_nil))) rfl (by first | exact Or.inl rfl | exact Or.inr rfl | exact Or.inr (Or.inl rfl) | exact Or.inr (Or.inr rfl))))) (fun _ _ _ _ _ => pd_var (pv 2)))) (pab_nil))))) (pab_nil))))
noncomputable def b_are_names_value : Dn.Env → T Out := seqD (ifD (tOr (tNot (tB (cal (calling 1 d_is_list) (aC (vA 1) (a0))))) (tOr (tB (bin neA (oA (cal lenD (bC (vD 1) (b0)))) (vD 0))) (tNot (tB (cal allD (bC (oA (lcD [2] (itS (vA 1)) (gN 2) (lcTest0) (cal (calling 3 d_is_within) (aC (vA 2) (aC (kA (.int 0)) (aC (bin subD (vD 0) (oA (kA (.int 1)))) (a0))))))) (b0))))))) (sRet (kA (.bool false))) (sNil)) (sRet (bin eqA (oA (cal lenSetD (oA (cal listD (bC (vD 1) (b0)))))) (vD 0)))
noncomputable def d_are_names_value : List AV → T AV := shut (runD 2 3 b_are_names_value)
theorem q_are_names_value : d_are_names_value = runD 2 3 b_are_names_value := shut_eq _
theorem s_are_names_value : FnScope ["things", "value", "one"] ["things", "value"] (defScope (LawHd.top 24)) := ⟨rfl, rfl, rfl, by decide +kernel, rfl, by decide +kernel, by decide +kernel⟩
theorem g_are_names_value (M : Facts K mg) {base : Heap} (hb : Hb K mg base) : FnG P w K mg base (TbL K) (Cal P w K mg base (TbL K)) "are_names_value" (LawHd.top 24) ["things", "value"] 3 d_are_names_value := by
  rw [q_are_names_value]
  obtain ⟨fd, F⟩ := M.f_are_names_value
  refine fn_g (N := ["things", "value", "one"]) F s_are_names_value M.g_are_names_value (by decide) (fun _ _ _ _ _ _ us hl => match us, hl with | [_, _], _ => rfl) fun cdv A outer s H hr hgd => ?_
  have hN : (["things", "value", "one"] : List Str).Nodup := s_are_names_value.nd
  have hu := room200 hr
  unfold b_are_names_value
  exact psd_cons (psd_if (PW.pt (pwd_or (ptd_not (ptd_val (pg_call (g_is_list M hb) (hr.mono (by decide)) hgd (by exact rfl) (pad_cons (pd_var (pv 1)) (pad_nil))))) (pwd_or (ptd_cmp (Dn.OpR.or op_ne (op_neD (u64 hu))) ok_neA (pb_of (pd_blt call_len_seq ok_len (by exact rfl) M.b_len (by decide +kernel) (pab_cons (pb_var (pv 1)) (pab_nil)))) (pb_var (pv 0)) rfl) (pwd_or1 (ptd_not (ptd_val (pd_blt (cr_all rfl) ok_bools (by exact rfl) M.b_all (by decide +kernel) (pab_cons (pb_of (pd_lc (own := [("one", 2)]) (g := gN 2) (t := lcTest0) (f := cal (calling 3 d_is_within) (aC (vA 2) (aC (kA (.int 0)) (aC (bin subD (vD 0) (oA (kA (.int 1)))) (a0))))) rfl hN (pid_seq (pd_var (pv 1))) (blkOk_by (by kernel_rfl)) (only_name) (fun _ _ _ _ _ => pgd_name (pg_name hN rfl (by first | exact Or.inl rfl | exact Or.inr rfl | exact Or.inr (Or.inl rfl) | exact Or.inr (Or.inr rfl)))) (fun _ _ _ _ _ => pts_d0) (fun _ _ _ _ _ => pg_call (g_is_within M hb) (hr.mono (by decide)) hgd (by exact rfl) (pad_cons (pd_var (pv 2)) (pad_cons (pd_int) (pad_cons (pd_op op_sub ok_sub (pb_var (pv 0)) (pb_of (pd_int))) (pad_nil))))))) (pab_nil))))))))) (psd_one (psd_ret (pd_bl))) (psd_nil))
      (psd_one (psd_ret (pd_cmp (Dn.OpR.or op_eq (op_eqD (u64 hu))) ok_eqA (pb_of (pd_lenSet rfl (by exact rfl) M.b_len (by exact rfl) M.b_set (pb_of (pd_ty call_list_of ok_list (by exact rfl) M.b_list (by decide +kernel) (pab_cons (pb_var (pv 1)) (pab_nil)))))) (pb_var (pv 0)) rfl)))
noncomputable def b_want_names : Dn.Env → T Out := ifD (tNot (tB (cal (calling 2 d_are_names_value) (aC (cal lenD (bC (vD 0) (b0))) (aC (vA 1) (a0)))))) (sErr) (sNil)
noncomputable def d_want_names : List AV → T AV := shut (runD 2 2 b_want_names)
theorem q_want_names : d_want_names = runD 2 2 b_want_names := shut_eq _
theorem s_want_names : FnScope ["relation", "names"] ["relation", "names"] (defScope (LawHd.top 25)) := ⟨rfl, rfl, rfl, by decide +kernel, rfl, by decide +kernel, by decide +kernel⟩
theorem g_want_names (M : Facts K mg) {base : Heap} (hb : Hb K mg base) : FnG P w K mg base (TbL K) (Cal P w K mg base (TbL K)) "want_names" (LawHd.top 25) ["relation", "names"] 4 d_want_names := by
  rw [q_want_names]
  obtain ⟨fd, F⟩ := M.f_want_names
  refine fn_g (N := ["relation", "names"]) F s_want_names M.g_want_names (by decide) (fun _ _ _ _ _ _ us hl => match us, hl with | [_, _], _ => rfl) fun cdv A outer s H hr hgd => ?_
  have hN : (["relation", "names"] : List Str).Nodup := s_want_names.nd
  have hu := room200 hr
  unfold b_want_names
  exact psd_one (psd_if (ptd_not (ptd_val (pg_call (g_are_names_value M hb) (hr.mono (by decide)) hgd (by exact rfl) (pad_cons (pd_blt call_len_seq ok_len (by exact rfl) M.b_len (by decide +kernel) (pab_cons (pb_var (pv 0)) (pab_nil))) (pad_cons (pd_var (pv 1)) (pad_nil)))))) (psd_one (psd_never)) (psd_nil))
noncomputable def l_renamed_of_0 : Dn.Env → T AV := bin (memD id) (oA (bin ixD (vD 2) (vD 1))) (oA (bin ixD (vD 3) (oA (bin ixD (vD 2) (vD 0)))))
noncomputable def b_renamed_of : Dn.Env → T Out := sRet (lamA 2 d_by_rule 2 [1, 0] 4 l_renamed_of_0 (cal lenD (bC (vD 0) (b0))))
noncomputable def d_renamed_of : List AV → T AV := shut (runD 2 2 b_renamed_of)
theorem q_renamed_of : d_renamed_of = runD 2 2 b_renamed_of := shut_eq _
theorem s_renamed_of : FnScope ["relation", "names"] ["relation", "names"] (defScope (LawHd.top 26)) := ⟨rfl, rfl, rfl, by decide +kernel, rfl, by decide +kernel, by decide +kernel⟩
theorem g_renamed_of (M : Facts K mg) {base : Heap} (hb : Hb K mg base) : FnG P w K mg base (TbL K) (Cal P w K mg base (TbL K)) "renamed_of" (LawHd.top 26) ["relation", "names"] 26 d_renamed_of := by
  rw [q_renamed_of]
  obtain ⟨fd, F⟩ := M.f_renamed_of
  refine fn_gc (N := ["relation", "names"]) F s_renamed_of M.g_renamed_of (by decide) (fun _ _ _ _ _ _ us hl => match us, hl with | [_, _], _ => rfl) fun A outer s H hr hgd => ?_
  have hN : (["relation", "names"] : List Str).Nodup := s_renamed_of.nd
  have hu := room200 hr
  unfold b_renamed_of
  exact psd_one (psd_ret (pd_lamcall (xs := ["things", "rule"]) (ps := ["one", "late"]) (fr := ["names", "relation"]) (N := ["one", "late", "names", "relation"]) (js := [1, 0]) (fb := l_renamed_of_0) (c := (He.cT K ("renamed_of", none)).1) (P := (He.cT K ("renamed_of", none)).2) (fun b' hb' => g_by_rule M (hb.mono hb')) rfl (hr.mono (by decide)) hgd (by exact rfl) (pd_blt call_len_seq ok_len (by exact rfl) M.b_len (by decide +kernel) (pab_cons (pb_var (pv 0)) (pab_nil)))
        (hb.tb _ (by decide)) rfl (List.mem_map.mpr ⟨"renamed_of", by decide, rfl⟩) (M.tabU "renamed_of" (by decide)) rfl (NdefX.nscope_by (by decide +kernel)) (NdefX.ndef_free (fr := ["names", "relation"]) (by kernel_rfl)) (NdefX.ndef_fr (sc := defScope (LawHd.top 26)) (by kernel_rfl)) rfl (fun _ => rfl)
        (fun _ _ _ _ _ us hl => match us, hl with | [_, _], _ => rfl)
        (fun b' hb' f c' A outer s H hr hgd => by
          have hb := hb.mono hb'
          have hN : (["one", "late", "names", "relation"] : List Str).Nodup := by decide +kernel
          have hu := room200 hr
          unfold l_renamed_of_0
          exact pd_cmp (op_inA hu) ok_mem (pb_of (pd_ix ix_seq ok_ix (pb_var (pv 2)) (pb_var (pv 1)) (by intro _ _; rfl))) (pb_of (pd_ix ix_seq ok_ix (pb_var (pv 3)) (pb_of (pd_ix ix_seq ok_ix (pb_var (pv 2)) (pb_var (pv 0)) (by intro _ _; rfl))) (by intro _ _; rfl))) rfl)))
noncomputable def b_renamed : Dn.Env → T Out := seqD (sEx (cal (calling 1 d_want_relation) (aC (vA 0) (a0)))) (seqD (sEx (cal (calling 2 d_want_names) (aC (vA 0) (aC (vA 1) (a0))))) (sRet (cal (calling 2 d_renamed_of) (aC (vA 0) (aC (cal listD (bC (vD 1) (b0))) (a0))))))
noncomputable def d_renamed : List AV → T AV := shut (runD 2 2 b_renamed)
theorem q_renamed : d_renamed = runD 2 2 b_renamed := shut_eq _
theorem s_renamed : FnScope ["relation", "names"] ["relation", "names"] (defScope (LawHd.top 27)) := ⟨rfl, rfl, rfl, by decide +kernel, rfl, by decide +kernel, by decide +kernel⟩
theorem g_renamed (M : Facts K mg) {base : Heap} (hb : Hb K mg base) : FnG P w K mg base (TbL K) (Cal P w K mg base (TbL K)) "renamed" (LawHd.top 27) ["relation", "names"] 27 d_renamed := by
  rw [q_renamed]
  obtain ⟨fd, F⟩ := M.f_renamed
  refine fn_g (N := ["relation", "names"]) F s_renamed M.g_renamed (by decide) (fun _ _ _ _ _ _ us hl => match us, hl with | [_, _], _ => rfl) fun cdv A outer s H hr hgd => ?_
  have hN : (["relation", "names"] : List Str).Nodup := s_renamed.nd
  have hu := room200 hr
  unfold b_renamed
  exact psd_cons (psd_expr (pg_call (g_want_relation M hb) (hr.mono (by decide)) hgd (by exact rfl) (pad_cons (pd_var (pv 0)) (pad_nil))))
      (psd_cons (psd_expr (pg_call (g_want_names M hb) (hr.mono (by decide)) hgd (by exact rfl) (pad_cons (pd_var (pv 0)) (pad_cons (pd_var (pv 1)) (pad_nil)))))
      (psd_one (psd_ret (pg_call (g_renamed_of M hb) (hr.mono (by decide)) hgd (by exact rfl) (pad_cons (pd_var (pv 0)) (pad_cons (pd_ty call_list_of ok_list (by exact rfl) M.b_list (by decide +kernel) (pab_cons (pb_var (pv 1)) (pab_nil))) (pad_nil)))))))
noncomputable def l_with_pair_0 : Dn.Env → T AV := bin neA (oA (bin (memD id) (vD 1) (oA (bin ixD (vD 3) (vD 0))))) (oA (bin eqA (oA (cal mkTup (aC (vA 0) (aC (vA 1) (a0))))) (oA (cal mkTup (aC (vA 4) (aC (vA 2) (a0)))))))
noncomputable def b_with_pair : Dn.Env → T Out := seqD (sEx (cal (calling 1 d_want_relation) (aC (vA 0) (a0)))) (seqD (sEx (cal (calling 2 d_want_thing) (aC (vA 0) (aC (vA 1) (a0))))) (seqD (sEx (cal (calling 2 d_want_thing) (aC (vA 0) (aC (vA 2) (a0))))) (sRet (lamA 2 d_by_rule 2 [2, 0, 1] 5 l_with_pair_0 (cal lenD (bC (vD 0) (b0)))))))
noncomputable def d_with_pair : List AV → T AV := shut (runD 3 3 b_with_pair)
theorem q_with_pair : d_with_pair = runD 3 3 b_with_pair := shut_eq _
theorem s_with_pair : FnScope ["relation", "thing", "other"] ["relation", "thing", "other"] (defScope (LawHd.top 28)) := ⟨rfl, rfl, rfl, by decide +kernel, rfl, by decide +kernel, by decide +kernel⟩
theorem g_with_pair (M : Facts K mg) {base : Heap} (hb : Hb K mg base) : FnG P w K mg base (TbL K) (Cal P w K mg base (TbL K)) "with_pair" (LawHd.top 28) ["relation", "thing", "other"] 26 d_with_pair := by
  rw [q_with_pair]
  obtain ⟨fd, F⟩ := M.f_with_pair
  refine fn_gc (N := ["relation", "thing", "other"]) F s_with_pair M.g_with_pair (by decide) (fun _ _ _ _ _ _ us hl => match us, hl with | [_, _, _], _ => rfl) fun A outer s H hr hgd => ?_
  have hN : (["relation", "thing", "other"] : List Str).Nodup := s_with_pair.nd
  have hu := room200 hr
  unfold b_with_pair
  exact psd_cons (psd_expr (pg_call (g_want_relation M hb) (hr.mono (by decide)) hgd (by exact rfl) (pad_cons (pd_var (pv 0)) (pad_nil))))
      (psd_cons (psd_expr (pg_call (g_want_thing M hb) (hr.mono (by decide)) hgd (by exact rfl) (pad_cons (pd_var (pv 0)) (pad_cons (pd_var (pv 1)) (pad_nil)))))
      (psd_cons (psd_expr (pg_call (g_want_thing M hb) (hr.mono (by decide)) hgd (by exact rfl) (pad_cons (pd_var (pv 0)) (pad_cons (pd_var (pv 2)) (pad_nil)))))
      (psd_one (psd_ret (pd_lamcall (xs := ["things", "rule"]) (ps := ["one", "late"]) (fr := ["other", "relation", "thing"]) (N := ["one", "late", "other", "relation", "thing"]) (js := [2, 0, 1]) (fb := l_with_pair_0) (c := (He.cT K ("with_pair", none)).1) (P := (He.cT K ("with_pair", none)).2) (fun b' hb' => g_by_rule M (hb.mono hb')) rfl (hr.mono (by decide)) hgd (by exact rfl) (pd_blt call_len_seq ok_len (by exact rfl) M.b_len (by decide +kernel) (pab_cons (pb_var (pv 0)) (pab_nil)))
        (hb.tb _ (by decide)) rfl (List.mem_map.mpr ⟨"with_pair", by decide, rfl⟩) (M.tabU "with_pair" (by decide)) rfl (NdefX.nscope_by (by decide +kernel)) (NdefX.ndef_free (fr := ["other", "relation", "thing"]) (by kernel_rfl)) (NdefX.ndef_fr (sc := defScope (LawHd.top 28)) (by kernel_rfl)) rfl (fun _ => rfl)
        (fun _ _ _ _ _ us hl => match us, hl with | [_, _], _ => rfl)
        (fun b' hb' f c' A outer s H hr hgd => by
          have hb := hb.mono hb'
          have hN : (["one", "late", "other", "relation", "thing"] : List Str).Nodup := by decide +kernel
          have hu := room200 hr
          unfold l_with_pair_0
          exact pd_cmp (Dn.OpR.or op_ne (op_neD (u64 hu))) ok_neA (pb_of (pd_cmp (op_inA hu) ok_mem (pb_var (pv 1)) (pb_of (pd_ix ix_seq ok_ix (pb_var (pv 3)) (pb_var (pv 0)) (by intro _ _; rfl))) rfl)) (pb_of (pd_cmp (Dn.OpR.or op_eq (op_eqD (u64 hu))) ok_eqA (pb_of (pd_tup (pad_cons (pd_var (pv 0)) (pad_cons (pd_var (pv 1)) (pad_nil))))) (pb_of (pd_tup (pad_cons (pd_var (pv 4)) (pad_cons (pd_var (pv 2)) (pad_nil))))) rfl)) rfl))))))
noncomputable def b_all_names : Dn.Env → T Out := seqD (setD 1 (fzA (cal mkLst (aC (cal mkLst (a0)) (a0))))) (seqD (forD (itR (vD 0)) (gN 2) (seqD (setD 3 (cal mkLst (a0))) (seqD (forD (itS (vA 1)) (gN 4) (extD 3 (lcD [5] (itR (vD 0)) (gN 5) (tB (bin (memD not) (vD 5) (vD 4))) (bin addD (vD 4) (oA (cal mkLst (aC (vA 5) (a0)))))))) (sShare [3] (setD 1 (fzA (vA 3))))))) (sRet (vA 1)))
noncomputable def d_all_names : List AV → T AV := shut (runD 1 6 b_all_names)
theorem q_all_names : d_all_names = runD 1 6 b_all_names := shut_eq _
theorem s_all_names : FnScope ["things", "found", "turn", "late", "names", "one"] ["things"] (defScope (LawHd.top 32)) := ⟨rfl, rfl, rfl, by decide +kernel, rfl, by decide +kernel, by decide +kernel⟩
theorem g_all_names (M : Facts K mg) {base : Heap} (hb : Hb K mg base) : FnG P w K mg base (TbL K) (Cal P w K mg base (TbL K)) "all_names" (LawHd.top 32) ["things"] 1 d_all_names := by
  rw [q_all_names]
  obtain ⟨fd, F⟩ := M.f_all_names
  refine fn_g (N := ["things", "found", "turn", "late", "names", "one"]) F s_all_names M.g_all_names (by decide) (fun _ _ _ _ _ _ us hl => match us, hl with | [_], _ => rfl) fun cdv A outer s H hr hgd => ?_
  have hN : (["things", "found", "turn", "late", "names", "one"] : List Str).Nodup := s_all_names.nd
  have hu := room200 hr
  unfold b_all_names
  exact psd_cons (psd_set (ps_set hN rfl (by first | exact Or.inl rfl | exact Or.inr rfl | exact Or.inr (Or.inl rfl) | exact Or.inr (Or.inr rfl)) (pd_frz (pd_lst (pad_cons (pd_lst (pad_nil)) (pad_nil))))))
      (psd_cons (psd_for PassesOwn.never rfl (pid_range1 (by exact rfl) M.b_range (pb_var (pv 0))) (pgd_name (pg_name hN rfl (by first | exact Or.inl rfl | exact Or.inr rfl | exact Or.inr (Or.inl rfl) | exact Or.inr (Or.inr rfl)))) (psd_cons (psd_set (ps_set hN rfl (by first | exact Or.inl rfl | exact Or.inr rfl | exact Or.inr (Or.inl rfl) | exact Or.inr (Or.inr rfl)) (pd_lst (pad_nil))))
      (psd_cons (psd_for PassesOwn.never rfl (pid_seq (pd_var (pv 1))) (pgd_name (pg_name hN rfl (by first | exact Or.inl rfl | exact Or.inr rfl | exact Or.inr (Or.inl rfl) | exact Or.inr (Or.inr rfl)))) (psd_one (psd_extend (pv 3) (pd_lc (own := [("one", 5)]) (g := gN 5) (t := tB (bin (memD not) (vD 5) (vD 4))) (f := bin addD (vD 4) (oA (cal mkLst (aC (vA 5) (a0))))) rfl hN (pid_range1 (by exact rfl) M.b_range (pb_var (pv 0))) (blkOk_by (by kernel_rfl)) (only_name) (fun _ _ _ _ _ => pgd_name (pg_name hN rfl (by first | exact Or.inl rfl | exact Or.inr rfl | exact Or.inr (Or.inl rfl) | exact Or.inr (Or.inr rfl)))) (fun _ _ _ _ _ => pts_d1 (ptd_cmp (op_notInA hu) ok_mem (pb_var (pv 5)) (pb_var (pv 4)) rfl)) (fun _ _ _ _ _ => pd_op op_addAll ok_add (pb_var (pv 4)) (pb_of (pd_lst (pad_cons (pd_var (pv 5)) (pad_nil)))))))))
      (psd_one (psd_share [3] (psd_set (ps_set hN rfl (by first | exact Or.inl rfl | exact Or.inr rfl | exact Or.inr (Or.inl rfl) | exact Or.inr (Or.inr rfl)) (pd_frz (pd_var (pv 3))))))))))
      (psd_one (psd_ret (pd_var (pv 1)))))
noncomputable def b_namings_of : Dn.Env → T Out := seqD (ifD (tB (bin neA (oA (cal sortedD (bC (oA (lcD [2] (itS (vA 0)) (gN 2) (lcTest0) (cal lenD (bC (vD 2) (b0))))) (b0)))) (oA (cal sortedD (bC (oA (lcD [2] (itS (vA 1)) (gN 2) (lcTest0) (cal lenD (bC (vD 2) (b0))))) (b0)))))) (sRet (cal mkLst (a0))) (sNil)) (sRet (lcD [3] (itS (cal (calling 1 d_all_names) (aC (cal lenD (bC (vD 0) (b0))) (a0)))) (gN 3) (tB (bin eqA (oA (cal (calling 2 d_renamed_of) (aC (vA 0) (aC (vA 3) (a0))))) (vD 1))) (vA 3)))
noncomputable def d_namings_of : List AV → T AV := shut (runD 2 4 b_namings_of)
theorem q_namings_of : d_namings_of = runD 2 4 b_namings_of := shut_eq _
theorem s_namings_of : FnScope ["relation", "other", "row", "names"] ["relation", "other"] (defScope (LawHd.top 33)) := ⟨rfl, rfl, rfl, by decide +kernel, rfl, by decide +kernel, by decide +kernel⟩
theorem g_namings_of (M : Facts K mg) {base : Heap} (hb : Hb K mg base) : FnG P w K mg base (TbL K) (Cal P w K mg base (TbL K)) "namings_of" (LawHd.top 33) ["relation", "other"] 27 d_namings_of := by
  rw [q_namings_of]
  obtain ⟨fd, F⟩ := M.f_namings_of
  refine fn_g (N := ["relation", "other", "row", "names"]) F s_namings_of M.g_namings_of (by decide) (fun _ _ _ _ _ _ us hl => match us, hl with | [_, _], _ => rfl) fun cdv A outer s H hr hgd => ?_
  have hN : (["relation", "other", "row", "names"] : List Str).Nodup := s_namings_of.nd
  have hu := room200 hr
  unfold b_namings_of
  exact psd_cons (psd_if (ptd_cmp (Dn.OpR.or op_ne (op_neD (u64 hu))) ok_neA (pb_of (pd_blt (cr_sortD hu) ok_sorted (by exact rfl) M.b_sorted (by decide +kernel) (pab_cons (pb_of (pd_lc (own := [("row", 2)]) (g := gN 2) (t := lcTest0) (f := cal lenD (bC (vD 2) (b0))) rfl hN (pid_seq (pd_var (pv 0))) (blkOk_by (by kernel_rfl)) (only_name) (fun _ _ _ _ _ => pgd_name (pg_name hN rfl (by first | exact Or.inl rfl | exact Or.inr rfl | exact Or.inr (Or.inl rfl) | exact Or.inr (Or.inr rfl)))) (fun _ _ _ _ _ => pts_d0) (fun _ _ _ _ _ => pd_blt call_len_seq ok_len (by exact rfl) M.b_len (by decide +kernel) (pab_cons (pb_var (pv 2)) (pab_nil))))) (pab_nil)))) (pb_of (pd_blt (cr_sortD hu) ok_sorted (by exact rfl) M.b_sorted (by decide +kernel) (pab_cons (pb_of (pd_lc (own := [("row", 2)]) (g := gN 2) (t := lcTest0) (f := cal lenD (bC (vD 2) (b0))) rfl hN (pid_seq (pd_var (pv 1))) (blkOk_by (by kernel_rfl)) (only_name) (fun _ _ _ _ _ => pgd_name (pg_name hN rfl (by first | exact Or.inl rfl | exact Or.inr rfl | exact Or.inr (Or.inl rfl) | exact Or.inr (Or.inr rfl)))) (fun _ _ _ _ _ => pts_d0) (fun _ _ _ _ _ => pd_blt call_len_seq ok_len (by exact rfl) M.b_len (by decide +kernel) (pab_cons (pb_var (pv 2)) (pab_nil))))) (pab_nil)))) rfl) (psd_one (psd_ret (pd_lst (pad_nil)))) (psd_nil))
      (psd_one (psd_ret (pd_lc (own := [("names", 3)]) (g := gN 3) (t := tB (bin eqA (oA (cal (calling 2 d_renamed_of) (aC (vA 0) (aC (vA 3) (a0))))) (vD 1))) (f := vA 3) rfl hN (pid_seq (pg_call (g_all_names M hb) (hr.mono (by decide)) hgd (by exact rfl) (pad_cons (pd_blt call_len_seq ok_len (by exact rfl) M.b_len (by decide +kernel) (pab_cons (pb_var (pv 0)) (pab_nil))) (pad_nil)))) (blkOk_by (by kernel_rfl)) (only_name) (fun _ _ _ _ _ => pgd_name (pg_name hN rfl (by first | exact Or.inl rfl | exact Or.inr rfl | exact Or.inr (Or.inl rfl) | exact Or.inr (Or.inr rfl)))) (fun _ _ _ _ _ => pts_d1 (ptd_cmp (Dn.OpR.or op_eq (op_eqD (u64 hu))) ok_eqA (pb_of (pg_call (g_renamed_of M hb) (hr.mono (by decide)) hgd (by exact rfl) (pad_cons (pd_var (pv 0)) (pad_cons (pd_var (pv 3)) (pad_nil))))) (pb_var (pv 1)) rfl)) (fun _ _ _ _ _ => pd_var (pv 3)))))
noncomputable def b_first_of : Dn.Env → T Out := seqD (asgD (tupG 2 (consG (gN 1) (consG (gN 2) (g0)))) (cal mkTup (aC (kA .none) (aC (kA .none) (a0))))) (seqD (forD (itS (cal (calling 1 d_all_names) (aC (cal lenD (bC (vD 0) (b0))) (a0)))) (gN 3) (seqD (setD 4 (fzA (cal (calling 2 d_renamed_of) (aC (vA 0) (aC (vA 3) (a0)))))) (ifD (tOr (tB (bin (isND id) (vD 1) (oA (kA .none)))) (tB (bin ltD (vD 4) (vD 1)))) (parD 1 2 (fzA (vA 4)) (fzA (vA 3))) (sNil)))) (sRet (cal mkTup (aC (vA 1) (aC (vA 2) (a0))))))
noncomputable def d_first_of : List AV → T AV := shut (runD 1 5 b_first_of)
theorem q_first_of : d_first_of = runD 1 5 b_first_of := shut_eq _
theorem s_first_of : FnScope ["relation", "form", "told", "names", "here"] ["relation"] (defScope (LawHd.top 34)) := ⟨rfl, rfl, rfl, by decide +kernel, rfl, by decide +kernel, by decide +kernel⟩
theorem g_first_of (M : Facts K mg) {base : Heap} (hb : Hb K mg base) : FnG P w K mg base (TbL K) (Cal P w K mg base (TbL K)) "first_of" (LawHd.top 34) ["relation"] 27 d_first_of := by
  rw [q_first_of]
  obtain ⟨fd, F⟩ := M.f_first_of
  refine fn_g (N := ["relation", "form", "told", "names", "here"]) F s_first_of M.g_first_of (by decide) (fun _ _ _ _ _ _ us hl => match us, hl with | [_], _ => rfl) fun cdv A outer s H hr hgd => ?_
  have hN : (["relation", "form", "told", "names", "here"] : List Str).Nodup := s_first_of.nd
  have hu := room200 hr
  unfold b_first_of
  exact psd_cons (psd_asg (ps_asg (pd_tup (pad_cons (pd_non) (pad_cons (pd_non) (pad_nil)))) (pgd_tup rfl (pgsd_cons (pgd_name (pg_name hN rfl (by first | exact Or.inl rfl | exact Or.inr rfl | exact Or.inr (Or.inl rfl) | exact Or.inr (Or.inr rfl)))) (pgsd_cons (pgd_name (pg_name hN rfl (by first | exact Or.inl rfl | exact Or.inr rfl | exact Or.inr (Or.inl rfl) | exact Or.inr (Or.inr rfl)))) (pgsd_nil)))).pg))
      (psd_cons (psd_for PassesOwn.never rfl (pid_seq (pg_call (g_all_names M hb) (hr.mono (by decide)) hgd (by exact rfl) (pad_cons (pd_blt call_len_seq ok_len (by exact rfl) M.b_len (by decide +kernel) (pab_cons (pb_var (pv 0)) (pab_nil))) (pad_nil)))) (pgd_name (pg_name hN rfl (by first | exact Or.inl rfl | exact Or.inr rfl | exact Or.inr (Or.inl rfl) | exact Or.inr (Or.inr rfl)))) (psd_cons (psd_set (ps_set hN rfl (by first | exact Or.inl rfl | exact Or.inr rfl | exact Or.inr (Or.inl rfl) | exact Or.inr (Or.inr rfl)) (pd_frz (pg_call (g_renamed_of M hb) (hr.mono (by decide)) hgd (by exact rfl) (pad_cons (pd_var (pv 0)) (pad_cons (pd_var (pv 3)) (pad_nil)))))))
      (psd_one (psd_if (PW.pt (pwd_or (ptd_cmp op_isN ok_isN (pb_var (pv 1)) (pb_of (pd_non)) rfl) (pwd_or1 (ptd_cmp (Dn.OpR.or op_lt (op_ltD hu)) ok_ord (pb_var (pv 4)) (pb_var (pv 1)) rfl)))) (psd_one (psd_par rfl hN rfl rfl (by decide) rfl rfl (pd_frz (pd_var (pv 4))) (pd_frz (pd_var (pv 3))) rfl)) (psd_nil)))))
      (psd_one (psd_ret (pd_tup (pad_cons (pd_var (pv 1)) (pad_cons (pd_var (pv 2)) (pad_nil)))))))
noncomputable def b_form_of : Dn.Env → T Out := sRet (bin ixD (oA (cal (calling 1 d_first_of) (aC (vA 0) (a0)))) (oA (kA (.int 0))))
noncomputable def d_form_of : List AV → T AV := shut (runD 1 1 b_form_of)
theorem q_form_of : d_form_of = runD 1 1 b_form_of := shut_eq _
theorem s_form_of : FnScope ["relation"] ["relation"] (defScope (LawHd.top 35)) := ⟨rfl, rfl, rfl, by decide +kernel, rfl, by decide +kernel, by decide +kernel⟩
theorem g_form_of (M : Facts K mg) {base : Heap} (hb : Hb K mg base) : FnG P w K mg base (TbL K) (Cal P w K mg base (TbL K)) "form_of" (LawHd.top 35) ["relation"] 28 d_form_of := by
  rw [q_form_of]
  obtain ⟨fd, F⟩ := M.f_form_of
  refine fn_g (N := ["relation"]) F s_form_of M.g_form_of (by decide) (fun _ _ _ _ _ _ us hl => match us, hl with | [_], _ => rfl) fun cdv A outer s H hr hgd => ?_
  have hN : (["relation"] : List Str).Nodup := s_form_of.nd
  have hu := room200 hr
  unfold b_form_of
  exact psd_one (psd_ret (pd_ix ix_seq ok_ix (pb_of (pg_call (g_first_of M hb) (hr.mono (by decide)) hgd (by exact rfl) (pad_cons (pd_var (pv 0)) (pad_nil)))) (pb_of (pd_int)) (by intro _ _; rfl)))
noncomputable def b_are_alike : Dn.Env → T Out := seqD (sEx (cal (calling 2 d_want_two) (aC (vA 0) (aC (vA 1) (a0))))) (sRet (bin neA (oA (cal (calling 2 d_namings_of) (aC (vA 0) (aC (vA 1) (a0))))) (oA (cal mkLst (a0)))))
noncomputable def d_are_alike : List AV → T AV := shut (runD 2 2 b_are_alike)
theorem q_are_alike : d_are_alike = runD 2 2 b_are_alike := shut_eq _
theorem s_are_alike : FnScope ["relation", "other"] ["relation", "other"] (defScope (LawHd.top 36)) := ⟨rfl, rfl, rfl, by decide +kernel, rfl, by decide +kernel, by decide +kernel⟩
theorem g_are_alike (M : Facts K mg) {base : Heap} (hb : Hb K mg base) : FnG P w K mg base (TbL K) (Cal P w K mg base (TbL K)) "are_alike" (LawHd.top 36) ["relation", "other"] 28 d_are_alike := by
  rw [q_are_alike]
  obtain ⟨fd, F⟩ := M.f_are_alike
  refine fn_g (N := ["relation", "other"]) F s_are_alike M.g_are_alike (by decide) (fun _ _ _ _ _ _ us hl => match us, hl with | [_, _], _ => rfl) fun cdv A outer s H hr hgd => ?_
  have hN : (["relation", "other"] : List Str).Nodup := s_are_alike.nd
  have hu := room200 hr
  unfold b_are_alike
  exact psd_cons (psd_expr (pg_call (g_want_two M hb) (hr.mono (by decide)) hgd (by exact rfl) (pad_cons (pd_var (pv 0)) (pad_cons (pd_var (pv 1)) (pad_nil)))))
      (psd_one (psd_ret (pd_cmp (Dn.OpR.or op_ne (op_neD (u64 hu))) ok_neA (pb_of (pg_call (g_namings_of M hb) (hr.mono (by decide)) hgd (by exact rfl) (pad_cons (pd_var (pv 0)) (pad_cons (pd_var (pv 1)) (pad_nil))))) (pb_of (pd_lst (pad_nil))) rfl)))
noncomputable def b_alike_paper : Dn.Env → T Out := seqD (sEx (cal (calling 2 d_want_two) (aC (vA 0) (aC (vA 1) (a0))))) (seqD (setD 2 (fzA (cal (calling 2 d_namings_of) (aC (vA 0) (aC (vA 1) (a0)))))) (sRet (ifA (tB (bin neA (vD 2) (oA (cal mkLst (a0))))) (cal mkTup (aC (kA (.str "names")) (aC (bin ixD (vD 2) (oA (kA (.int 0)))) (a0)))) (cal mkTup (aC (kA (.str "forms")) (aC (cal mkTup (aC (cal (calling 1 d_form_of) (aC (vA 0) (a0))) (aC (cal (calling 1 d_form_of) (aC (vA 1) (a0))) (a0)))) (a0)))))))
noncomputable def d_alike_paper : List AV → T AV := shut (runD 2 3 b_alike_paper)
theorem q_alike_paper : d_alike_paper = runD 2 3 b_alike_paper := shut_eq _
theorem s_alike_paper : FnScope ["relation", "other", "found"] ["relation", "other"] (defScope (LawHd.top 37)) := ⟨rfl, rfl, rfl, by decide +kernel, rfl, by decide +kernel, by decide +kernel⟩
theorem g_alike_paper (M : Facts K mg) {base : Heap} (hb : Hb K mg base) : FnG P w K mg base (TbL K) (Cal P w K mg base (TbL K)) "alike_paper" (LawHd.top 37) ["relation", "other"] 29 d_alike_paper := by
  rw [q_alike_paper]
  obtain ⟨fd, F⟩ := M.f_alike_paper
  refine fn_g (N := ["relation", "other", "found"]) F s_alike_paper M.g_alike_paper (by decide) (fun _ _ _ _ _ _ us hl => match us, hl with | [_, _], _ => rfl) fun cdv A outer s H hr hgd => ?_
  have hN : (["relation", "other", "found"] : List Str).Nodup := s_alike_paper.nd
  have hu := room200 hr
  unfold b_alike_paper
  exact psd_cons (psd_expr (pg_call (g_want_two M hb) (hr.mono (by decide)) hgd (by exact rfl) (pad_cons (pd_var (pv 0)) (pad_cons (pd_var (pv 1)) (pad_nil)))))
      (psd_cons (psd_set (ps_set hN rfl (by first | exact Or.inl rfl | exact Or.inr rfl | exact Or.inr (Or.inl rfl) | exact Or.inr (Or.inr rfl)) (pd_frz (pg_call (g_namings_of M hb) (hr.mono (by decide)) hgd (by exact rfl) (pad_cons (pd_var (pv 0)) (pad_cons (pd_var (pv 1)) (pad_nil)))))))
      (psd_one (psd_ret (pd_if (ptd_cmp (Dn.OpR.or op_ne (op_neD (u64 hu))) ok_neA (pb_var (pv 2)) (pb_of (pd_lst (pad_nil))) rfl) (pd_tup (pad_cons (pd_gstr rfl M.c_NAMES_WORD.choose_spec) (pad_cons (pd_ix ix_seq ok_ix (pb_var (pv 2)) (pb_of (pd_int)) (by intro _ _; rfl)) (pad_nil)))) (pd_tup (pad_cons (pd_gstr rfl M.c_FORMS_WORD.choose_spec) (pad_cons (pd_tup (pad_cons (pg_call (g_form_of M hb) (hr.mono (by decide)) hgd (by exact rfl) (pad_cons (pd_var (pv 0)) (pad_nil))) (pad_cons (pg_call (g_form_of M hb) (hr.mono (by decide)) hgd (by exact rfl) (pad_cons (pd_var (pv 1)) (pad_nil))) (pad_nil)))) (pad_nil))))))))
noncomputable def b_are_forms : Dn.Env → T Out := sRet (andA (cal (calling 2 d_is_tuple) (aC (vA 1) (aC (kA (.int 2)) (a0)))) (cal allD (bC (oA (lcD [2] (itS (vA 1)) (gN 2) (lcTest0) (cal (calling 2 d_is_relation_of) (aC (vA 0) (aC (vA 2) (a0)))))) (b0))))
noncomputable def d_are_forms : List AV → T AV := shut (runD 2 3 b_are_forms)
theorem q_are_forms : d_are_forms = runD 2 3 b_are_forms := shut_eq _
theorem s_are_forms : FnScope ["things", "value", "one"] ["things", "value"] (defScope (LawHd.top 39)) := ⟨rfl, rfl, rfl, by decide +kernel, rfl, by decide +kernel, by decide +kernel⟩
theorem g_are_forms (M : Facts K mg) {base : Heap} (hb : Hb K mg base) : FnG P w K mg base (TbL K) (Cal P w K mg base (TbL K)) "are_forms" (LawHd.top 39) ["things", "value"] 5 d_are_forms := by
  rw [q_are_forms]
  obtain ⟨fd, F⟩ := M.f_are_forms
  refine fn_g (N := ["things", "value", "one"]) F s_are_forms M.g_are_forms (by decide) (fun _ _ _ _ _ _ us hl => match us, hl with | [_, _], _ => rfl) fun cdv A outer s H hr hgd => ?_
  have hN : (["things", "value", "one"] : List Str).Nodup := s_are_forms.nd
  have hu := room200 hr
  unfold b_are_forms
  exact psd_one (psd_ret (pd_and (pg_call (g_is_tuple M hb) (hr.mono (by decide)) hgd (by exact rfl) (pad_cons (pd_var (pv 1)) (pad_cons (pd_int) (pad_nil)))) (pd_one (pd_blt (cr_all rfl) ok_bools (by exact rfl) M.b_all (by decide +kernel) (pab_cons (pb_of (pd_lc (own := [("one", 2)]) (g := gN 2) (t := lcTest0) (f := cal (calling 2 d_is_relation_of) (aC (vA 0) (aC (vA 2) (a0)))) rfl hN (pid_seq (pd_var (pv 1))) (blkOk_by (by kernel_rfl)) (only_name) (fun _ _ _ _ _ => pgd_name (pg_name hN rfl (by first | exact Or.inl rfl | exact Or.inr rfl | exact Or.inr (Or.inl rfl) | exact Or.inr (Or.inr rfl)))) (fun _ _ _ _ _ => pts_d0) (fun _ _ _ _ _ => pg_call (g_is_relation_of M hb) (hr.mono (by decide)) hgd (by exact rfl) (pad_cons (pd_var (pv 0)) (pad_cons (pd_var (pv 2)) (pad_nil)))))) (pab_nil))))))
noncomputable def b_is_alike_paper : Dn.Env → T Out := seqD (sEx (cal (calling 2 d_want_two) (aC (vA 0) (aC (vA 1) (a0))))) (seqD (ifD (tOr (tNot (tB (cal (calling 2 d_is_tuple) (aC (vA 2) (aC (kA (.int 2)) (a0)))))) (tNot (tB (isA "str" (oA (bin ixD (vD 2) (oA (kA (.int 0))))))))) (sRet (kA (.bool false))) (sNil)) (seqD (ifD (tB (bin eqA (oA (bin ixD (vD 2) (oA (kA (.int 0))))) (oA (kA (.str "names"))))) (sRet (andA (cal (calling 2 d_are_names_value) (aC (cal lenD (bC (vD 0) (b0))) (aC (bin ixD (vD 2) (oA (kA (.int 1)))) (a0)))) (bin eqA (oA (cal (calling 2 d_renamed_of) (aC (vA 0) (aC (cal listD (bC (oA (bin ixD (vD 2) (oA (kA (.int 1))))) (b0))) (a0))))) (vD 1)))) (sNil)) (seqD (ifD (tOr (tB (bin neA (oA (bin ixD (vD 2) (oA (kA (.int 0))))) (oA (kA (.str "forms"))))) (tNot (tB (cal (calling 2 d_are_forms) (aC (cal lenD (bC (vD 0) (b0))) (aC (bin ixD (vD 2) (oA (kA (.int 1)))) (a0))))))) (sRet (kA (.bool false))) (sNil)) (sRet (andA (bin neA (oA (bin ixD (oA (bin ixD (vD 2) (oA (kA (.int 1))))) (oA (kA (.int 0))))) (oA (bin ixD (oA (bin ixD (vD 2) (oA (kA (.int 1))))) (oA (kA (.int 1)))))) (bin eqA (oA (bin ixD (vD 2) (oA (kA (.int 1))))) (oA (cal mkTup (aC (cal (calling 1 d_form_of) (aC (vA 0) (a0))) (aC (cal (calling 1 d_form_of) (aC (vA 1) (a0))) (a0)))))))))))
noncomputable def d_is_alike_paper : List AV → T AV := shut (runD 3 3 b_is_alike_paper)
theorem q_is_alike_paper : d_is_alike_paper = runD 3 3 b_is_alike_paper := shut_eq _
theorem s_is_alike_paper : FnScope ["relation", "other", "value"] ["relation", "other", "value"] (defScope (LawHd.top 38)) := ⟨rfl, rfl, rfl, by decide +kernel, rfl, by decide +kernel, by decide +kernel⟩
theorem g_is_alike_paper (M : Facts K mg) {base : Heap} (hb : Hb K mg base) : FnG P w K mg base (TbL K) (Cal P w K mg base (TbL K)) "is_alike_paper" (LawHd.top 38) ["relation", "other", "value"] 29 d_is_alike_paper := by
  rw [q_is_alike_paper]
  obtain ⟨fd, F⟩ := M.f_is_alike_paper
  refine fn_g (N := ["relation", "other", "value"]) F s_is_alike_paper M.g_is_alike_paper (by decide) (fun _ _ _ _ _ _ us hl => match us, hl with | [_, _, _], _ => rfl) fun cdv A outer s H hr hgd => ?_
  have hN : (["relation", "other", "value"] : List Str).Nodup := s_is_alike_paper.nd
  have hu := room200 hr
  unfold b_is_alike_paper
  exact psd_cons (psd_expr (pg_call (g_want_two M hb) (hr.mono (by decide)) hgd (by exact rfl) (pad_cons (pd_var (pv 0)) (pad_cons (pd_var (pv 1)) (pad_nil)))))
      (psd_cons (psd_if (PW.pt (pwd_or (ptd_not (ptd_val (pg_call (g_is_tuple M hb) (hr.mono (by decide)) hgd (by exact rfl) (pad_cons (pd_var (pv 2)) (pad_cons (pd_int) (pad_nil)))))) (pwd_or1 (ptd_not (ptd_val (pd_isi (pb_of (pd_ix ix_seq ok_ix (pb_var (pv 2)) (pb_of (pd_int)) (by intro _ _; rfl))) (by exact rfl) M.b_isinstance (by exact rfl) M.b_str (by decide +kernel) kit_str)))))) (psd_one (psd_ret (pd_bl))) (psd_nil))
      (psd_cons (psd_if (ptd_cmp (Dn.OpR.or op_eq (op_eqD (u64 hu))) ok_eqA (pb_of (pd_ix ix_seq ok_ix (pb_var (pv 2)) (pb_of (pd_int)) (by intro _ _; rfl))) (pb_of (pd_gstr rfl M.c_NAMES_WORD.choose_spec)) rfl) (psd_one (psd_ret (pd_and (pg_call (g_are_names_value M hb) (hr.mono (by decide)) hgd (by exact rfl) (pad_cons (pd_blt call_len_seq ok_len (by exact rfl) M.b_len (by decide +kernel) (pab_cons (pb_var (pv 0)) (pab_nil))) (pad_cons (pd_ix ix_seq ok_ix (pb_var (pv 2)) (pb_of (pd_int)) (by intro _ _; rfl)) (pad_nil)))) (pd_one (pd_cmp (Dn.OpR.or op_eq (op_eqD (u64 hu))) ok_eqA (pb_of (pg_call (g_renamed_of M hb) (hr.mono (by decide)) hgd (by exact rfl) (pad_cons (pd_var (pv 0)) (pad_cons (pd_ty call_list_of ok_list (by exact rfl) M.b_list (by decide +kernel) (pab_cons (pb_of (pd_ix ix_seq ok_ix (pb_var (pv 2)) (pb_of (pd_int)) (by intro _ _; rfl))) (pab_nil))) (pad_nil))))) (pb_var (pv 1)) rfl))))) (psd_nil))
      (psd_cons (psd_if (PW.pt (pwd_or (ptd_cmp (Dn.OpR.or op_ne (op_neD (u64 hu))) ok_neA (pb_of (pd_ix ix_seq ok_ix (pb_var (pv 2)) (pb_of (pd_int)) (by intro _ _; rfl))) (pb_of (pd_gstr rfl M.c_FORMS_WORD.choose_spec)) rfl) (pwd_or1 (ptd_not (ptd_val (pg_call (g_are_forms M hb) (hr.mono (by decide)) hgd (by exact rfl) (pad_cons (pd_blt call_len_seq ok_len (by exact rfl) M.b_len (by decide +kernel) (pab_cons (pb_var (pv 0)) (pab_nil))) (pad_cons (pd_ix ix_seq ok_ix (pb_var (pv 2)) (pb_of (pd_int)) (by intro _ _; rfl)) (pad_nil))))))))) (psd_one (psd_ret (pd_bl))) (psd_nil))
      (psd_one (psd_ret (pd_and (pd_cmp (Dn.OpR.or op_ne (op_neD (u64 hu))) ok_neA (pb_of (pd_ix ix_seq ok_ix (pb_of (pd_ix ix_seq ok_ix (pb_var (pv 2)) (pb_of (pd_int)) (by intro _ _; rfl))) (pb_of (pd_int)) (by intro _ _; rfl))) (pb_of (pd_ix ix_seq ok_ix (pb_of (pd_ix ix_seq ok_ix (pb_var (pv 2)) (pb_of (pd_int)) (by intro _ _; rfl))) (pb_of (pd_int)) (by intro _ _; rfl))) rfl) (pd_one (pd_cmp (Dn.OpR.or op_eq (op_eqD (u64 hu))) ok_eqA (pb_of (pd_ix ix_seq ok_ix (pb_var (pv 2)) (pb_of (pd_int)) (by intro _ _; rfl))) (pb_of (pd_tup (pad_cons (pg_call (g_form_of M hb) (hr.mono (by decide)) hgd (by exact rfl) (pad_cons (pd_var (pv 0)) (pad_nil))) (pad_cons (pg_call (g_form_of M hb) (hr.mono (by decide)) hgd (by exact rfl) (pad_cons (pd_var (pv 1)) (pad_nil))) (pad_nil))))) rfl))))))))
noncomputable def b__law_pot : Dn.Env → T Out := seqD (setD 2 (fzA (ifA (tB (bin ltD (vD 1) (oA (cal lenD (bC (vD 0) (b0)))))) (cal absD (bC (oA (bin ixD (vD 0) (vD 1))) (b0))) (bin addD (oA (bin mulD (oA (kA (.int 3779))) (vD 1))) (oA (kA (.int 2731))))))) (sRet (cal mkLst (aC (cal max2D (bC (oA (kA (.int 0))) (bC (oA (bin subD (vD 2) (oA (bin powD (oA (kA (.int 10))) (oA (kA (.int 18))))))) (b0)))) (aC (bin addD (oA (bin modD (oA (cal intOfD (bC (oA (bin addD (oA (bin addD (oA (bin mulD (oA (bin modD (oA (cal intOfD (bC (vD 2) (b0)))) (oA (kA (.int 2147483543))))) (oA (kA (.int 46997))))) (oA (bin mulD (oA (kA (.int 2731))) (vD 1))))) (oA (kA (.int 3779))))) (b0)))) (oA (kA (.int 2147483563))))) (oA (kA (.int 1)))) (a0)))))
noncomputable def d__law_pot0 : List AV → T AV := shut (runD 2 3 b__law_pot)
theorem q__law_pot0 : d__law_pot0 = runD 2 3 b__law_pot := shut_eq _
theorem s__law_pot : FnScope ["script", "k", "cell"] ["script", "k"] (defScope (LawHd.top 41)) := ⟨rfl, rfl, rfl, by decide +kernel, rfl, by decide +kernel, by decide +kernel⟩
theorem g__law_pot0 (M : Facts K mg) {base : Heap} (hb : Hb K mg base) : FnG P w K mg base (TbL K) (Cal P w K mg base (TbL K)) "_law_pot" (LawHd.top 41) ["script", "k"] 1 d__law_pot0 := by
  rw [q__law_pot0]
  obtain ⟨fd, F⟩ := M.f__law_pot
  refine fn_g (N := ["script", "k", "cell"]) F s__law_pot M.g__law_pot (by decide) (fun _ _ _ _ _ _ us hl => match us, hl with | [_, _], _ => rfl) fun cdv A outer s H hr hgd => ?_
  have hN : (["script", "k", "cell"] : List Str).Nodup := s__law_pot.nd
  have hu := room200 hr
  unfold b__law_pot
  exact psd_cons (psd_set (ps_set hN rfl (by first | exact Or.inl rfl | exact Or.inr rfl | exact Or.inr (Or.inl rfl) | exact Or.inr (Or.inr rfl)) (pd_frz (pd_if (ptd_cmp (Dn.OpR.or op_lt (op_ltD hu)) ok_ord (pb_var (pv 1)) (pb_of (pd_blt call_len_seq ok_len (by exact rfl) M.b_len (by decide +kernel) (pab_cons (pb_var (pv 0)) (pab_nil)))) rfl) (pd_blt call_abs ok_abs (by exact rfl) M.b_abs (by decide +kernel) (pab_cons (pb_of (pd_ix ix_seq ok_ix (pb_var (pv 0)) (pb_var (pv 1)) (by intro _ _; rfl))) (pab_nil))) (pd_op op_addAll ok_add (pb_of (pd_op op_mul ok_mul (pb_of (pd_int)) (pb_var (pv 1)))) (pb_of (pd_int)))))))
      (psd_one (psd_ret (pd_lst (pad_cons (pd_blt (call_max2 rfl) ok_max2 (by exact rfl) M.b_max (by decide +kernel) (pab_cons (pb_of (pd_int)) (pab_cons (pb_of (pd_op op_sub ok_sub (pb_var (pv 2)) (pb_of (pd_op op_pow ok_pow (pb_of (pd_int)) (pb_of (pd_int)))))) (pab_nil)))) (pad_cons (pd_op op_addAll ok_add (pb_of (pd_op op_modN ok_mod (pb_of (pd_ty call_int1 ok_intOf (by exact rfl) M.b_int (by decide +kernel) (pab_cons (pb_of (pd_op op_addAll ok_add (pb_of (pd_op op_addAll ok_add (pb_of (pd_op op_mul ok_mul (pb_of (pd_op op_modN ok_mod (pb_of (pd_ty call_int1 ok_intOf (by exact rfl) M.b_int (by decide +kernel) (pab_cons (pb_var (pv 2)) (pab_nil)))) (pb_of (pd_int)))) (pb_of (pd_int)))) (pb_of (pd_op op_mul ok_mul (pb_of (pd_int)) (pb_var (pv 1)))))) (pb_of (pd_int)))) (pab_nil)))) (pb_of (pd_int)))) (pb_of (pd_int))) (pad_nil))))))
noncomputable def d__law_pot : List AV → T AV := shut fun as => (d__law_pot0 as).bind potOf
theorem q__law_pot : d__law_pot = fun as => (d__law_pot0 as).bind potOf := shut_eq _
theorem g__law_pot (M : Facts K mg) {base : Heap} (hb : Hb K mg base) : FnG P w K mg base (TbL K) (Cal P w K mg base (TbL K)) "_law_pot" (LawHd.top 41) ["script", "k"] 1 d__law_pot := by
  rw [q__law_pot]
  exact (g__law_pot0 M hb).potOf
noncomputable def b__law_draw : Dn.Env → T Out := seqD (ifD (tB (bin gtD (oA (potRead 0 0)) (oA (kA (.int 0))))) (seqD (asgD (tupG 2 (consG (potG 0 0) (consG (gN 2) (g0)))) (cal divmodD (bC (oA (potRead 0 0)) (bC (vD 1) (b0))))) (sRet (vA 2))) (sNil)) (seqD (asgD (potG 0 1) (bin modD (oA (cal intOfD (bC (oA (bin addD (oA (bin mulD (oA (potRead 0 1)) (oA (kA (.int 42024))))) (oA (kA (.int 3853))))) (b0)))) (oA (kA (.int 2147483563))))) (sRet (bin modD (oA (cal intOfD (bC (oA (bin fdivD (oA (bin modD (oA (cal intOfD (bC (oA (bin mulD (oA (potRead 0 1)) (oA (potRead 0 1)))) (b0)))) (oA (kA (.int 2147483549))))) (oA (kA (.int 131))))) (b0)))) (vD 1))))
noncomputable def d__law_draw : List AV → T AV := shut (runD 2 3 b__law_draw)
theorem q__law_draw : d__law_draw = runD 2 3 b__law_draw := shut_eq _
theorem s__law_draw : FnScope ["pot", "many", "digit"] ["pot", "many"] (defScope (LawHd.top 42)) := ⟨rfl, rfl, rfl, by decide +kernel, rfl, by decide +kernel, by decide +kernel⟩
theorem g__law_draw (M : Facts K mg) {base : Heap} (hb : Hb K mg base) : FnG P w K mg base (TbL K) (Cal P w K mg base (TbL K)) "_law_draw" (LawHd.top 42) ["pot", "many"] 1 d__law_draw := by
  rw [q__law_draw]
  obtain ⟨fd, F⟩ := M.f__law_draw
  refine fn_g (N := ["pot", "many", "digit"]) F s__law_draw M.g__law_draw (by decide) (fun _ _ _ _ _ _ us hl => match us, hl with | [_, _], _ => rfl) fun cdv A outer s H hr hgd => ?_
  have hN : (["pot", "many", "digit"] : List Str).Nodup := s__law_draw.nd
  have hu := room200 hr
  unfold b__law_draw
  exact psd_cons (psd_if (ptd_cmp (Dn.OpR.or op_gt (op_gtD hu)) ok_ord (pb_of (pd_pot (pv 0) (by intro _ _; rfl))) (pb_of (pd_int)) rfl) (psd_cons (psd_asg (ps_asg (pd_blt call_divmod ok_divmod (by exact rfl) M.b_divmod (by decide +kernel) (pab_cons (pb_of (pd_pot (pv 0) (by intro _ _; rfl))) (pab_cons (pb_var (pv 1)) (pab_nil)))) (pgd_tup rfl (pgsd_cons (pgd_pot (pv 0)) (pgsd_cons (pgd_name (pg_name hN rfl (by first | exact Or.inl rfl | exact Or.inr rfl | exact Or.inr (Or.inl rfl) | exact Or.inr (Or.inr rfl)))) (pgsd_nil)))).pg))
      (psd_one (psd_ret (pd_var (pv 2))))) (psd_nil))
      (psd_cons (psd_asg (ps_asg (pd_op op_modN ok_mod (pb_of (pd_ty call_int1 ok_intOf (by exact rfl) M.b_int (by decide +kernel) (pab_cons (pb_of (pd_op op_addAll ok_add (pb_of (pd_op op_mul ok_mul (pb_of (pd_pot (pv 0) (by intro _ _; rfl))) (pb_of (pd_int)))) (pb_of (pd_int)))) (pab_nil)))) (pb_of (pd_int))) (pgd_pot (pv 0)).pg))
      (psd_one (psd_ret (pd_op op_modN ok_mod (pb_of (pd_ty call_int1 ok_intOf (by exact rfl) M.b_int (by decide +kernel) (pab_cons (pb_of (pd_op op_fdivN ok_fdiv (pb_of (pd_op op_modN ok_mod (pb_of (pd_ty call_int1 ok_intOf (by exact rfl) M.b_int (by decide +kernel) (pab_cons (pb_of (pd_op op_mul ok_mul (pb_of (pd_pot (pv 0) (by intro _ _; rfl))) (pb_of (pd_pot (pv 0) (by intro _ _; rfl))))) (pab_nil)))) (pb_of (pd_int)))) (pb_of (pd_int)))) (pab_nil)))) (pb_var (pv 1))))))
noncomputable def b__law_pick : Dn.Env → T Out := sRet (bin ixD (vD 1) (oA (cal (calling 2 d__law_draw) (aC (vA 0) (aC (cal lenD (bC (vD 1) (b0))) (a0))))))
noncomputable def d__law_pick : List AV → T AV := shut (runD 2 2 b__law_pick)
theorem q__law_pick : d__law_pick = runD 2 2 b__law_pick := shut_eq _
theorem s__law_pick : FnScope ["pot", "some"] ["pot", "some"] (defScope (LawHd.top 43)) := ⟨rfl, rfl, rfl, by decide +kernel, rfl, by decide +kernel, by decide +kernel⟩
theorem g__law_pick (M : Facts K mg) {base : Heap} (hb : Hb K mg base) : FnG P w K mg base (TbL K) (Cal P w K mg base (TbL K)) "_law_pick" (LawHd.top 43) ["pot", "some"] 2 d__law_pick := by
  rw [q__law_pick]
  obtain ⟨fd, F⟩ := M.f__law_pick
  refine fn_g (N := ["pot", "some"]) F s__law_pick M.g__law_pick (by decide) (fun _ _ _ _ _ _ us hl => match us, hl with | [_, _], _ => rfl) fun cdv A outer s H hr hgd => ?_
  have hN : (["pot", "some"] : List Str).Nodup := s__law_pick.nd
  have hu := room200 hr
  unfold b__law_pick
  exact psd_one (psd_ret (pd_ix ix_seq ok_ix (pb_var (pv 1)) (pb_of (pg_call (g__law_draw M hb) (hr.mono (by decide)) hgd (by exact rfl) (pad_cons (pd_var (pv 0)) (pad_cons (pd_blt call_len_seq ok_len (by exact rfl) M.b_len (by decide +kernel) (pab_cons (pb_var (pv 1)) (pab_nil))) (pad_nil))))) (by intro _ _; rfl)))
noncomputable def b__law_mixed : Dn.Env → T Out := seqD (parD 2 3 (cal listD (bC (vD 1) (b0))) (cal mkLst (a0))) (seqD (whileN [] (tB (bin neA (vD 2) (oA (cal mkLst (a0))))) (appD 3 (popD 2 (oA (cal (calling 2 d__law_draw) (aC (vA 0) (aC (cal lenD (bC (vD 2) (b0))) (a0))))))) 1000) (sShare [3] (sRet (vA 3))))
noncomputable def d__law_mixed : List AV → T AV := shut (runD 2 4 b__law_mixed)
theorem q__law_mixed : d__law_mixed = runD 2 4 b__law_mixed := shut_eq _
theorem s__law_mixed : FnScope ["pot", "some", "left", "found"] ["pot", "some"] (defScope (LawHd.top 44)) := ⟨rfl, rfl, rfl, by decide +kernel, rfl, by decide +kernel, by decide +kernel⟩
theorem g__law_mixed (M : Facts K mg) {base : Heap} (hb : Hb K mg base) : FnG P w K mg base (TbL K) (Cal P w K mg base (TbL K)) "_law_mixed" (LawHd.top 44) ["pot", "some"] 2 d__law_mixed := by
  rw [q__law_mixed]
  obtain ⟨fd, F⟩ := M.f__law_mixed
  refine fn_g (N := ["pot", "some", "left", "found"]) F s__law_mixed M.g__law_mixed (by decide) (fun _ _ _ _ _ _ us hl => match us, hl with | [_, _], _ => rfl) fun cdv A outer s H hr hgd => ?_
  have hN : (["pot", "some", "left", "found"] : List Str).Nodup := s__law_mixed.nd
  have hu := room200 hr
  unfold b__law_mixed
  exact psd_cons (psd_par rfl hN rfl rfl (by decide) rfl rfl (pd_ty call_list_of ok_list (by exact rfl) M.b_list (by decide +kernel) (pab_cons (pb_var (pv 1)) (pab_nil))) (pd_lst (pad_nil)) rfl)
      (psd_cons (psd_while [] 1000 PassesOwn.never (ptd_cmp (Dn.OpR.or op_ne (op_neD (u64 hu))) ok_neA (pb_var (pv 2)) (pb_of (pd_lst (pad_nil))) rfl) (psd_one (psd_append (pv 3) (pxd_pop (pv 2) (pb_of (pg_call (g__law_draw M hb) (hr.mono (by decide)) hgd (by exact rfl) (pad_cons (pd_var (pv 0)) (pad_cons (pd_blt call_len_seq ok_len (by exact rfl) M.b_len (by decide +kernel) (pab_cons (pb_var (pv 2)) (pab_nil))) (pad_nil)))))))))
      (psd_one (psd_share [3] (psd_ret (pd_var (pv 3))))))
noncomputable def b__law_relation : Dn.Env → T Out := seqD (asgD (tupG 2 (consG (gN 2) (consG (gN 3) (g0)))) (cal mkTup (aC (bin addD (oA (kA (.int 1))) (oA (cal (calling 2 d__law_draw) (aC (vA 0) (aC (vA 1) (a0)))))) (aC (cal (calling 2 d__law_draw) (aC (vA 0) (aC (kA (.int 6)) (a0)))) (a0))))) (seqD (setD 4 (fzA (bin addD (oA (kA (.int 2))) (oA (cal (calling 2 d__law_draw) (aC (vA 0) (aC (kA (.int 3)) (a0)))))))) (seqD (setD 5 (fzA (lcD [7] (itR (vD 2)) (gN 7) (lcTest0) (lcD [6] (itR (vD 2)) (gN 6) (tB (bin eqA (oA (cal (calling 2 d__law_draw) (aC (vA 0) (aC (vA 4) (a0))))) (oA (kA (.int 0))))) (vA 6))))) (seqD (ifD (tB (bin eqA (vD 3) (oA (kA (.int 1))))) (setD 5 (fzA (lcD [7] (itR (vD 2)) (gN 7) (lcTest0) (cal mkLst (aC (cal (calling 2 d__law_draw) (aC (vA 0) (aC (vA 2) (a0)))) (a0)))))) (sNil)) (seqD (ifD (tB (bin eqA (vD 3) (oA (kA (.int 2))))) (setD 5 (fzA (lcD [8] (itS (vA 5)) (gN 8) (lcTest0) (lcD [6] (itR (vD 2)) (gN 6) (tB (bin (memD not) (vD 6) (vD 8))) (vA 6))))) (sNil)) (seqD (ifD (tB (bin eqA (vD 3) (oA (kA (.int 3))))) (setD 5 (fzA (lcD [7] (itR (vD 2)) (gN 7) (lcTest0) (lcD [6] (itR (vD 2)) (gN 6) (tOr (tB (bin (memD id) (vD 6) (oA (bin ixD (vD 5) (vD 7))))) (tB (bin (memD id) (vD 7) (oA (bin ixD (vD 5) (vD 6)))))) (vA 6))))) (sNil)) (seqD (ifD (tB (bin eqA (vD 3) (oA (kA (.int 4))))) (seqD (setD 9 (fzA (cal (calling 2 d__law_draw) (aC (vA 0) (aC (vA 2) (a0)))))) (setD 5 (fzA (lcD [7] (itR (vD 2)) (gN 7) (lcTest0) (cal mkLst (aC (bin modD (oA (cal intOfD (bC (oA (bin addD (vD 7) (vD 9))) (b0)))) (vD 2)) (a0))))))) (sNil)) (sRet (cal tupleD (bC (oA (lcD [8] (itS (vA 5)) (gN 8) (lcTest0) (cal tupleD (bC (oA (cal sortSetD (vD 8))) (b0))))) (b0))))))))))
noncomputable def d__law_relation : List AV → T AV := shut (runD 2 10 b__law_relation)
theorem q__law_relation : d__law_relation = runD 2 10 b__law_relation := shut_eq _
theorem s__law_relation : FnScope ["pot", "most", "things", "way", "scarce", "rows", "late", "one", "row", "step"] ["pot", "most"] (defScope (LawHd.top 45)) := ⟨rfl, rfl, rfl, by decide +kernel, rfl, by decide +kernel, by decide +kernel⟩
theorem g__law_relation (M : Facts K mg) {base : Heap} (hb : Hb K mg base) : FnG P w K mg base (TbL K) (Cal P w K mg base (TbL K)) "_law_relation" (LawHd.top 45) ["pot", "most"] 2 d__law_relation := by
  rw [q__law_relation]
  obtain ⟨fd, F⟩ := M.f__law_relation
  refine fn_g (N := ["pot", "most", "things", "way", "scarce", "rows", "late", "one", "row", "step"]) F s__law_relation M.g__law_relation (by decide) (fun _ _ _ _ _ _ us hl => match us, hl with | [_, _], _ => rfl) fun cdv A outer s H hr hgd => ?_
  have hN : (["pot", "most", "things", "way", "scarce", "rows", "late", "one", "row", "step"] : List Str).Nodup := s__law_relation.nd
  have hu := room200 hr
  unfold b__law_relation
  exact psd_cons (psd_asg (ps_asg (pd_tup (pad_cons (pd_op op_addAll ok_add (pb_of (pd_int)) (pb_of (pg_call (g__law_draw M hb) (hr.mono (by decide)) hgd (by exact rfl) (pad_cons (pd_var (pv 0)) (pad_cons (pd_var (pv 1)) (pad_nil)))))) (pad_cons (pg_call (g__law_draw M hb) (hr.mono (by decide)) hgd (by exact rfl) (pad_cons (pd_var (pv 0)) (pad_cons (pd_int) (pad_nil)))) (pad_nil)))) (pgd_tup rfl (pgsd_cons (pgd_name (pg_name hN rfl (by first | exact Or.inl rfl | exact Or.inr rfl | exact Or.inr (Or.inl rfl) | exact Or.inr (Or.inr rfl)))) (pgsd_cons (pgd_name (pg_name hN rfl (by first | exact Or.inl rfl | exact Or.inr rfl | exact Or.inr (Or.inl rfl) | exact Or.inr (Or.inr rfl)))) (pgsd_nil)))).pg))
      (psd_cons (psd_set (ps_set hN rfl (by first | exact Or.inl rfl | exact Or.inr rfl | exact Or.inr (Or.inl rfl) | exact Or.inr (Or.inr rfl)) (pd_frz (pd_op op_addAll ok_add (pb_of (pd_int)) (pb_of (pg_call (g__law_draw M hb) (hr.mono (by decide)) hgd (by exact rfl) (pad_cons (pd_var (pv 0)) (pad_cons (pd_int) (pad_nil)))))))))
      (psd_cons (psd_set (ps_set hN rfl (by first | exact Or.inl rfl | exact Or.inr rfl | exact Or.inr (Or.inl rfl) | exact Or.inr (Or.inr rfl)) (pd_frz (pd_lc (own := [("one", 7)]) (g := gN 7) (t := lcTest0) (f := lcD [6] (itR (vD 2)) (gN 6) (tB (bin eqA (oA (cal (calling 2 d__law_draw) (aC (vA 0) (aC (vA 4) (a0))))) (oA (kA (.int 0))))) (vA 6)) rfl hN (pid_range1 (by exact rfl) M.b_range (pb_var (pv 2))) (blkOk_by (by kernel_rfl)) (only_name) (fun _ _ _ _ _ => pgd_name (pg_name hN rfl (by first | exact Or.inl rfl | exact Or.inr rfl | exact Or.inr (Or.inl rfl) | exact Or.inr (Or.inr rfl)))) (fun _ _ _ _ _ => pts_d0) (fun _ _ _ _ _ => pd_lc (own := [("late", 6)]) (g := gN 6) (t := tB (bin eqA (oA (cal (calling 2 d__law_draw) (aC (vA 0) (aC (vA 4) (a0))))) (oA (kA (.int 0))))) (f := vA 6) rfl hN (pid_range1 (by exact rfl) M.b_range (pb_var (pv 2))) (blkOk_by (by kernel_rfl)) (only_name) (fun _ _ _ _ _ => pgd_name (pg_name hN rfl (by first | exact Or.inl rfl | exact Or.inr rfl | exact Or.inr (Or.inl rfl) | exact Or.inr (Or.inr rfl)))) (fun _ _ _ _ _ => pts_d1 (ptd_cmp (Dn.OpR.or op_eq (op_eqD (u64 hu))) ok_eqA (pb_of (pg_call (g__law_draw M hb) (hr.mono (by decide)) hgd (by exact rfl) (pad_cons (pd_var (pv 0)) (pad_cons (pd_var (pv 4)) (pad_nil))))) (pb_of (pd_int)) rfl)) (fun _ _ _ _ _ => pd_var (pv 6)))))))
      (psd_cons (psd_if (ptd_cmp (Dn.OpR.or op_eq (op_eqD (u64 hu))) ok_eqA (pb_var (pv 3)) (pb_of (pd_int)) rfl) (psd_one (psd_set (ps_set hN rfl (by first | exact Or.inl rfl | exact Or.inr rfl | exact Or.inr (Or.inl rfl) | exact Or.inr (Or.inr rfl)) (pd_frz (pd_lc (own := [("one", 7)]) (g := gN 7) (t := lcTest0) (f := cal mkLst (aC (cal (calling 2 d__law_draw) (aC (vA 0) (aC (vA 2) (a0)))) (a0))) rfl hN (pid_range1 (by exact rfl) M.b_range (pb_var (pv 2))) (blkOk_by (by kernel_rfl)) (only_name) (fun _ _ _ _ _ => pgd_name (pg_name hN rfl (by first | exact Or.inl rfl | exact Or.inr rfl | exact Or.inr (Or.inl rfl) | exact Or.inr (Or.inr rfl)))) (fun _ _ _ _ _ => pts_d0) (fun _ _ _ _ _ => pd_lst (pad_cons (pg_call (g__law_draw M hb) (hr.mono (by decide)) hgd (by exact rfl) (pad_cons (pd_var (pv 0)) (pad_cons (pd_var (pv 2)) (pad_nil)))) (pad_nil)))))))) (psd_nil))
      (psd_cons (psd_if (ptd_cmp (Dn.OpR.or op_eq (op_eqD (u64 hu))) ok_eqA (pb_var (pv 3)) (pb_of (pd_int)) rfl) (psd_one (psd_set (ps_set hN rfl (by first | exact Or.inl rfl | exact Or.inr rfl | exact Or.inr (Or.inl rfl) | exact Or.inr (Or.inr rfl)) (pd_frz (pd_lc (own := [("row", 8)]) (g := gN 8) (t := lcTest0) (f := lcD [6] (itR (vD 2)) (gN 6) (tB (bin (memD not) (vD 6) (vD 8))) (vA 6)) rfl hN (pid_seq (pd_var (pv 5))) (blkOk_by (by kernel_rfl)) (only_name) (fun _ _ _ _ _ => pgd_name (pg_name hN rfl (by first | exact Or.inl rfl | exact Or.inr rfl | exact Or.inr (Or.inl rfl) | exact Or.inr (Or.inr rfl)))) (fun _ _ _ _ _ => pts_d0) (fun _ _ _ _ _ => pd_lc (own := [("late", 6)]) (g := gN 6) (t := tB (bin (memD not) (vD 6) (vD 8))) (f := vA 6) rfl hN (pid_range1 (by exact rfl) M.b_range (pb_var (pv 2))) (blkOk_by (by kernel_rfl)) (only_name) (fun _ _ _ _ _ => pgd_name (pg_name hN rfl (by first | exact Or.inl rfl | exact Or.inr rfl | exact Or.inr (Or.inl rfl) | exact Or.inr (Or.inr rfl)))) (fun _ _ _ _ _ => pts_d1 (ptd_cmp (op_notInA hu) ok_mem (pb_var (pv 6)) (pb_var (pv 8)) rfl)) (fun _ _ _ _ _ => pd_var (pv 6)))))))) (psd_nil))
      (psd_cons (psd_if (ptd_cmp (Dn.OpR.or op_eq (op_eqD (u64 hu))) ok_eqA (pb_var (pv 3)) (pb_of (pd_int)) rfl) (psd_one (psd_set (ps_set hN rfl (by first | exact Or.inl rfl | exact Or.inr rfl | exact Or.inr (Or.inl rfl) | exact Or.inr (Or.inr rfl)) (pd_frz (pd_lc (own := [("one", 7)]) (g := gN 7) (t := lcTest0) (f := lcD [6] (itR (vD 2)) (gN 6) (tOr (tB (bin (memD id) (vD 6) (oA (bin ixD (vD 5) (vD 7))))) (tB (bin (memD id) (vD 7) (oA (bin ixD (vD 5) (vD 6)))))) (vA 6)) rfl hN (pid_range1 (by exact rfl) M.b_range (pb_var (pv 2))) (blkOk_by (by kernel_rfl)) (only_name) (fun _ _ _ _ _ => pgd_name (pg_name hN rfl (by first | exact Or.inl rfl | exact Or.inr rfl | exact Or.inr (Or.inl rfl) | exact Or.inr (Or.inr rfl)))) (fun _ _ _ _ _ => pts_d0) (fun _ _ _ _ _ => pd_lc (own := [("late", 6)]) (g := gN 6) (t := tOr (tB (bin (memD id) (vD 6) (oA (bin ixD (vD 5) (vD 7))))) (tB (bin (memD id) (vD 7) (oA (bin ixD (vD 5) (vD 6)))))) (f := vA 6) rfl hN (pid_range1 (by exact rfl) M.b_range (pb_var (pv 2))) (blkOk_by (by kernel_rfl)) (only_name) (fun _ _ _ _ _ => pgd_name (pg_name hN rfl (by first | exact Or.inl rfl | exact Or.inr rfl | exact Or.inr (Or.inl rfl) | exact Or.inr (Or.inr rfl)))) (fun _ _ _ _ _ => pts_d1 (PW.pt (pwd_or (ptd_cmp (op_inA hu) ok_mem (pb_var (pv 6)) (pb_of (pd_ix ix_seq ok_ix (pb_var (pv 5)) (pb_var (pv 7)) (by intro _ _; rfl))) rfl) (pwd_or1 (ptd_cmp (op_inA hu) ok_mem (pb_var (pv 7)) (pb_of (pd_ix ix_seq ok_ix (pb_var (pv 5)) (pb_var (pv 6)) (by intro _ _; rfl))) rfl))))) (fun _ _ _ _ _ => pd_var (pv 6)))))))) (psd_nil))
      (psd_cons (psd_if (ptd_cmp (Dn.OpR.or op_eq (op_eqD (u64 hu))) ok_eqA (pb_var (pv 3)) (pb_of (pd_int)) rfl) (psd_cons (psd_set (ps_set hN rfl (by first | exact Or.inl rfl | exact Or.inr rfl | exact Or.inr (Or.inl rfl) | exact Or.inr (Or.inr rfl)) (pd_frz (pg_call (g__law_draw M hb) (hr.mono (by decide)) hgd (by exact rfl) (pad_cons (pd_var (pv 0)) (pad_cons (pd_var (pv 2)) (pad_nil)))))))
      (psd_one (psd_set (ps_set hN rfl (by first | exact Or.inl rfl | exact Or.inr rfl | exact Or.inr (Or.inl rfl) | exact Or.inr (Or.inr rfl)) (pd_frz (pd_lc (own := [("one", 7)]) (g := gN 7) (t := lcTest0) (f := cal mkLst (aC (bin modD (oA (cal intOfD (bC (oA (bin addD (vD 7) (vD 9))) (b0)))) (vD 2)) (a0))) rfl hN (pid_range1 (by exact rfl) M.b_range (pb_var (pv 2))) (blkOk_by (by kernel_rfl)) (only_name) (fun _ _ _ _ _ => pgd_name (pg_name hN rfl (by first | exact Or.inl rfl | exact Or.inr rfl | exact Or.inr (Or.inl rfl) | exact Or.inr (Or.inr rfl)))) (fun _ _ _ _ _ => pts_d0) (fun _ _ _ _ _ => pd_lst (pad_cons (pd_op op_modN ok_mod (pb_of (pd_ty call_int1 ok_intOf (by exact rfl) M.b_int (by decide +kernel) (pab_cons (pb_of (pd_op op_addAll ok_add (pb_var (pv 7)) (pb_var (pv 9)))) (pab_nil)))) (pb_var (pv 2))) (pad_nil))))))))) (psd_nil))
      (psd_one (psd_ret (pd_ty call_tuple_of ok_tuple (by exact rfl) M.b_tuple (by decide +kernel) (pab_cons (pb_of (pd_lc (own := [("row", 8)]) (g := gN 8) (t := lcTest0) (f := cal tupleD (bC (oA (cal sortSetD (vD 8))) (b0))) rfl hN (pid_seq (pd_var (pv 5))) (blkOk_by (by kernel_rfl)) (only_name) (fun _ _ _ _ _ => pgd_name (pg_name hN rfl (by first | exact Or.inl rfl | exact Or.inr rfl | exact Or.inr (Or.inl rfl) | exact Or.inr (Or.inr rfl)))) (fun _ _ _ _ _ => pts_d0) (fun _ _ _ _ _ => pd_ty call_tuple_of ok_tuple (by exact rfl) M.b_tuple (by decide +kernel) (pab_cons (pb_of (pd_sortSet rfl (by exact rfl) M.b_sorted (by exact rfl) M.b_set (pb_var (pv 8)))) (pab_nil))))) (pab_nil)))))))))))
noncomputable def b__law_renamed : Dn.Env → T Out := sRet (cal tupleD (bC (oA (lcD [3] (itS (vA 1)) (gN 3) (lcTest0) (cal tupleD (bC (oA (cal sortedD (bC (oA (lcD [2] (itS (bin ixD (vD 0) (vD 3))) (gN 2) (lcTest0) (ixL (vD 1) (vD 2)))) (b0)))) (b0))))) (b0)))
noncomputable def d__law_renamed : List AV → T AV := shut (runD 2 4 b__law_renamed)
theorem q__law_renamed : d__law_renamed = runD 2 4 b__law_renamed := shut_eq _
theorem s__law_renamed : FnScope ["relation", "names", "late", "one"] ["relation", "names"] (defScope (LawHd.top 46)) := ⟨rfl, rfl, rfl, by decide +kernel, rfl, by decide +kernel, by decide +kernel⟩
theorem g__law_renamed (M : Facts K mg) {base : Heap} (hb : Hb K mg base) : FnG P w K mg base (TbL K) (Cal P w K mg base (TbL K)) "_law_renamed" (LawHd.top 46) ["relation", "names"] 1 d__law_renamed := by
  rw [q__law_renamed]
  obtain ⟨fd, F⟩ := M.f__law_renamed
  refine fn_g (N := ["relation", "names", "late", "one"]) F s__law_renamed M.g__law_renamed (by decide) (fun _ _ _ _ _ _ us hl => match us, hl with | [_, _], _ => rfl) fun cdv A outer s H hr hgd => ?_
  have hN : (["relation", "names", "late", "one"] : List Str).Nodup := s__law_renamed.nd
  have hu := room200 hr
  unfold b__law_renamed
  exact psd_one (psd_ret (pd_ty call_tuple_of ok_tuple (by exact rfl) M.b_tuple (by decide +kernel) (pab_cons (pb_of (pd_lc (own := [("one", 3)]) (g := gN 3) (t := lcTest0) (f := cal tupleD (bC (oA (cal sortedD (bC (oA (lcD [2] (itS (bin ixD (vD 0) (vD 3))) (gN 2) (lcTest0) (ixL (vD 1) (vD 2)))) (b0)))) (b0))) rfl hN (pid_seq (pd_var (pv 1))) (blkOk_by (by kernel_rfl)) (only_name) (fun _ _ _ _ _ => pgd_name (pg_name hN rfl (by first | exact Or.inl rfl | exact Or.inr rfl | exact Or.inr (Or.inl rfl) | exact Or.inr (Or.inr rfl)))) (fun _ _ _ _ _ => pts_d0) (fun _ _ _ _ _ => pd_ty call_tuple_of ok_tuple (by exact rfl) M.b_tuple (by decide +kernel) (pab_cons (pb_of (pd_blt (cr_sortD hu) ok_sorted (by exact rfl) M.b_sorted (by decide +kernel) (pab_cons (pb_of (pd_lc (own := [("late", 2)]) (g := gN 2) (t := lcTest0) (f := ixL (vD 1) (vD 2)) rfl hN (pid_seq (pd_ix ix_seq ok_ix (pb_var (pv 0)) (pb_var (pv 3)) (by intro _ _; rfl))) (blkOk_by (by kernel_rfl)) (only_name) (fun _ _ _ _ _ => pgd_name (pg_name hN rfl (by first | exact Or.inl rfl | exact Or.inr rfl | exact Or.inr (Or.inl rfl) | exact Or.inr (Or.inr rfl)))) (fun _ _ _ _ _ => pts_d0) (fun _ _ _ _ _ => pd_index hu (pb_var (pv 1)) (pb_var (pv 2))))) (pab_nil)))) (pab_nil))))) (pab_nil))))
noncomputable def b__law_all_names : Dn.Env → T Out := seqD (setD 1 (fzA (cal mkLst (aC (cal mkLst (a0)) (a0))))) (seqD (forD (itR (vD 0)) (gN 2) (seqD (setD 3 (cal mkLst (a0))) (seqD (forD (itS (vA 1)) (gN 4) (extD 3 (lcD [5] (itR (vD 0)) (gN 5) (tB (bin (memD not) (vD 5) (vD 4))) (bin addD (vD 4) (oA (cal mkLst (aC (vA 5) (a0)))))))) (sShare [3] (setD 1 (fzA (vA 3))))))) (sRet (vA 1)))
noncomputable def d__law_all_names : List AV → T AV := shut (runD 1 6 b__law_all_names)
theorem q__law_all_names : d__law_all_names = runD 1 6 b__law_all_names := shut_eq _
theorem s__law_all_names : FnScope ["things", "found", "turn", "longer", "names", "one"] ["things"] (defScope (LawHd.top 47)) := ⟨rfl, rfl, rfl, by decide +kernel, rfl, by decide +kernel, by decide +kernel⟩
theorem g__law_all_names (M : Facts K mg) {base : Heap} (hb : Hb K mg base) : FnG P w K mg base (TbL K) (Cal P w K mg base (TbL K)) "_law_all_names" (LawHd.top 47) ["things"] 1 d__law_all_names := by
  rw [q__law_all_names]
  obtain ⟨fd, F⟩ := M.f__law_all_names
  refine fn_g (N := ["things", "found", "turn", "longer", "names", "one"]) F s__law_all_names M.g__law_all_names (by decide) (fun _ _ _ _ _ _ us hl => match us, hl with | [_], _ => rfl) fun cdv A outer s H hr hgd => ?_
  have hN : (["things", "found", "turn", "longer", "names", "one"] : List Str).Nodup := s__law_all_names.nd
  have hu := room200 hr
  unfold b__law_all_names
  exact psd_cons (psd_set (ps_set hN rfl (by first | exact Or.inl rfl | exact Or.inr rfl | exact Or.inr (Or.inl rfl) | exact Or.inr (Or.inr rfl)) (pd_frz (pd_lst (pad_cons (pd_lst (pad_nil)) (pad_nil))))))
      (psd_cons (psd_for PassesOwn.never rfl (pid_range1 (by exact rfl) M.b_range (pb_var (pv 0))) (pgd_name (pg_name hN rfl (by first | exact Or.inl rfl | exact Or.inr rfl | exact Or.inr (Or.inl rfl) | exact Or.inr (Or.inr rfl)))) (psd_cons (psd_set (ps_set hN rfl (by first | exact Or.inl rfl | exact Or.inr rfl | exact Or.inr (Or.inl rfl) | exact Or.inr (Or.inr rfl)) (pd_lst (pad_nil))))
      (psd_cons (psd_for PassesOwn.never rfl (pid_seq (pd_var (pv 1))) (pgd_name (pg_name hN rfl (by first | exact Or.inl rfl | exact Or.inr rfl | exact Or.inr (Or.inl rfl) | exact Or.inr (Or.inr rfl)))) (psd_one (psd_extend (pv 3) (pd_lc (own := [("one", 5)]) (g := gN 5) (t := tB (bin (memD not) (vD 5) (vD 4))) (f := bin addD (vD 4) (oA (cal mkLst (aC (vA 5) (a0))))) rfl hN (pid_range1 (by exact rfl) M.b_range (pb_var (pv 0))) (blkOk_by (by kernel_rfl)) (only_name) (fun _ _ _ _ _ => pgd_name (pg_name hN rfl (by first | exact Or.inl rfl | exact Or.inr rfl | exact Or.inr (Or.inl rfl) | exact Or.inr (Or.inr rfl)))) (fun _ _ _ _ _ => pts_d1 (ptd_cmp (op_notInA hu) ok_mem (pb_var (pv 5)) (pb_var (pv 4)) rfl)) (fun _ _ _ _ _ => pd_op op_addAll ok_add (pb_var (pv 4)) (pb_of (pd_lst (pad_cons (pd_var (pv 5)) (pad_nil)))))))))
      (psd_one (psd_share [3] (psd_set (ps_set hN rfl (by first | exact Or.inl rfl | exact Or.inr rfl | exact Or.inr (Or.inl rfl) | exact Or.inr (Or.inr rfl)) (pd_frz (pd_var (pv 3))))))))))
      (psd_one (psd_ret (pd_var (pv 1)))))
noncomputable def b__law_first : Dn.Env → T Out := sRet (cal (bestD PySem.W.minD) (bC (oA (lcD [1] (itS (cal (calling 1 d__law_all_names) (aC (cal lenD (bC (vD 0) (b0))) (a0)))) (gN 1) (lcTest0) (cal (calling 2 d__law_renamed) (aC (vA 0) (aC (vA 1) (a0)))))) (b0)))
noncomputable def d__law_first : List AV → T AV := shut (runD 1 2 b__law_first)
theorem q__law_first : d__law_first = runD 1 2 b__law_first := shut_eq _
theorem s__law_first : FnScope ["relation", "names"] ["relation"] (defScope (LawHd.top 48)) := ⟨rfl, rfl, rfl, by decide +kernel, rfl, by decide +kernel, by decide +kernel⟩
theorem g__law_first (M : Facts K mg) {base : Heap} (hb : Hb K mg base) : FnG P w K mg base (TbL K) (Cal P w K mg base (TbL K)) "_law_first" (LawHd.top 48) ["relation"] 2 d__law_first := by
  rw [q__law_first]
  obtain ⟨fd, F⟩ := M.f__law_first
  refine fn_g (N := ["relation", "names"]) F s__law_first M.g__law_first (by decide) (fun _ _ _ _ _ _ us hl => match us, hl with | [_], _ => rfl) fun cdv A outer s H hr hgd => ?_
  have hN : (["relation", "names"] : List Str).Nodup := s__law_first.nd
  have hu := room200 hr
  unfold b__law_first
  exact psd_one (psd_ret (pd_blt (cr_minD rfl hu) ok_best (by exact rfl) M.b_min (by decide +kernel) (pab_cons (pb_of (pd_lc (own := [("names", 1)]) (g := gN 1) (t := lcTest0) (f := cal (calling 2 d__law_renamed) (aC (vA 0) (aC (vA 1) (a0)))) rfl hN (pid_seq (pg_call (g__law_all_names M hb) (hr.mono (by decide)) hgd (by exact rfl) (pad_cons (pd_blt call_len_seq ok_len (by exact rfl) M.b_len (by decide +kernel) (pab_cons (pb_var (pv 0)) (pab_nil))) (pad_nil)))) (blkOk_by (by kernel_rfl)) (only_name) (fun _ _ _ _ _ => pgd_name (pg_name hN rfl (by first | exact Or.inl rfl | exact Or.inr rfl | exact Or.inr (Or.inl rfl) | exact Or.inr (Or.inr rfl)))) (fun _ _ _ _ _ => pts_d0) (fun _ _ _ _ _ => pg_call (g__law_renamed M hb) (hr.mono (by decide)) hgd (by exact rfl) (pad_cons (pd_var (pv 0)) (pad_cons (pd_var (pv 1)) (pad_nil)))))) (pab_nil))))
noncomputable def b__law_two_right : Dn.Env → T Out := seqD (par3D 3 4 5 (fzA (cal reprD (bC (oA (cal mkLst (aC (vA 1) (aC (vA 2) (a0))))) (b0)))) (cal mkLst (a0)) (fzA (cal lenD (bC (vD 1) (b0))))) (seqD (setD 6 (lcD [7] (itS (cal (calling 1 d__law_all_names) (aC (vA 5) (a0)))) (gN 7) (tB (bin eqA (oA (cal (calling 2 d__law_renamed) (aC (vA 1) (aC (vA 7) (a0))))) (vD 2))) (vA 7))) (seqD (parD 8 9 (fzA (cal (calling 1 d__law_first) (aC (vA 1) (a0)))) (fzA (cal (calling 1 d__law_first) (aC (vA 2) (a0))))) (seqD (setD 10 (fzA (ifA (tB (bin neA (vD 6) (oA (cal mkLst (a0))))) (cal mkTup (aC (kA (.str "names")) (aC (bin ixD (vD 6) (oA (kA (.int 0)))) (a0)))) (cal mkTup (aC (kA (.str "forms")) (aC (cal mkTup (aC (vA 8) (aC (vA 9) (a0)))) (a0))))))) (seqD (setD 11 (fzA (cal (calling 2 d_alike_paper) (aC (vA 1) (aC (vA 2) (a0)))))) (seqD (ifD (tOr (tB (bin neA (oA (cal reprD (bC (oA (cal mkLst (aC (vA 11) (aC (calK 2 d_alike_paper [1, 0] (aC (vA 2) (aC (vA 1) (a0)))) (a0))))) (b0)))) (oA (cal reprD (bC (oA (cal mkLst (aC (vA 10) (aC (vA 10) (a0))))) (b0)))))) (tOr (tB (bin (isBD not) (oA (cal (calling 3 d_is_alike_paper) (aC (vA 1) (aC (vA 2) (aC (vA 11) (a0)))))) (oA (kA (.bool true))))) (tB (bin neA (oA (cal (calling 2 d_are_alike) (aC (vA 1) (aC (vA 2) (a0))))) (oA (bin neA (vD 6) (oA (cal mkLst (a0))))))))) (sRet (kA (.bool false))) (sNil)) (seqD (forD (itR (oA (kA (.int 5)))) (gN 12) (seqD (setD 7 (fzA (cal (calling 2 d__law_pick) (aC (vA 0) (aC (cal mkLst (aC (cal (calling 2 d__law_mixed) (aC (vA 0) (aC (cal (rgD .own) (vD 5)) (a0)))) (aC (ifA (tB (bin neA (vD 6) (oA (cal mkLst (a0))))) (bin ixD (vD 6) (oA (kA (.int 0)))) (cal (rgD .own) (vD 5))) (a0)))) (a0)))))) (seqD (setD 13 (fzA (bin eqA (oA (cal (calling 2 d__law_renamed) (aC (vA 1) (aC (vA 7) (a0))))) (vD 2)))) (seqD (ifD (tB (bin neA (oA (cal reprD (bC (oA (cal mkLst (aC (cal (calling 3 d_is_alike_paper) (aC (vA 1) (aC (vA 2) (aC (cal mkTup (aC (kA (.str "names")) (aC (cal listD (bC (vD 7) (b0))) (a0)))) (a0))))) (aC (calK 3 d_is_alike_paper [2, 1, 0] (aC (cal mkTup (aC (kA (.str "names")) (aC (cal tupleD (bC (vD 7) (b0))) (a0)))) (aC (vA 2) (aC (vA 1) (a0))))) (a0))))) (b0)))) (oA (cal reprD (bC (oA (cal mkLst (aC (vA 13) (aC (vA 13) (a0))))) (b0)))))) (sRet (kA (.bool false))) (sNil)) (extD 4 (ifA (tB (vA 13)) (cal mkLst (aC (kA (.str "names")) (a0))) (cal mkLst (a0)))))))) (seqD (forD (itS (cal mkLst (aC (cal mkTup (aC (vA 8) (aC (vA 9) (a0)))) (aC (cal mkTup (aC (vA 9) (aC (vA 8) (a0)))) (aC (cal mkTup (aC (vA 1) (aC (vA 2) (a0)))) (aC (cal mkTup (aC (vA 8) (aC (vA 8) (a0)))) (aC (cal mkTup (aC (vA 8) (aC (vA 1) (a0)))) (a0)))))))) (gN 14) (seqD (setD 13 (fzA (andA (bin eqA (vD 14) (oA (cal mkTup (aC (vA 8) (aC (vA 9) (a0)))))) (bin neA (vD 8) (vD 9))))) (seqD (ifD (tB (bin neA (oA (cal reprD (bC (oA (cal mkLst (aC (cal (calling 3 d_is_alike_paper) (aC (vA 1) (aC (vA 2) (aC (cal mkTup (aC (kA (.str "forms")) (aC (vA 14) (a0)))) (a0))))) (aC (calK 3 d_is_alike_paper [2, 1, 0] (aC (cal mkTup (aC (kA (.str "forms")) (aC (vA 14) (a0)))) (aC (vA 2) (aC (vA 1) (a0))))) (a0))))) (b0)))) (oA (cal reprD (bC (oA (cal mkLst (aC (vA 13) (aC (vA 13) (a0))))) (b0)))))) (sRet (kA (.bool false))) (sNil)) (extD 4 (ifA (tB (vA 13)) (cal mkLst (aC (kA (.str "forms")) (a0))) (cal mkLst (a0))))))) (seqD (sShare [4] (ifD (tB (bin neA (oA (lcD [15] (itS (vA 4)) (gN 15) (tB (bin neA (vD 15) (oA (bin ixD (vD 11) (oA (kA (.int 0))))))) (vA 15))) (oA (cal mkLst (a0))))) (sRet (kA (.bool false))) (sNil))) (seqD (setD 16 (fzA (cal (calling 2 d_alike_paper) (aC (vA 2) (aC (vA 1) (a0)))))) (seqD (ifD (tOr (tB (bin neA (oA (bin ixD (vD 16) (oA (kA (.int 0))))) (oA (bin ixD (vD 11) (oA (kA (.int 0))))))) (tAnd (tB (bin eqA (oA (bin ixD (vD 11) (oA (kA (.int 0))))) (oA (kA (.str "forms"))))) (tB (bin neA (oA (bin ixD (vD 16) (oA (kA (.int 1))))) (oA (cal mkTup (aC (vA 9) (aC (vA 8) (a0))))))))) (sRet (kA (.bool false))) (sNil)) (sRet (bin eqA (oA (cal reprD (bC (oA (cal mkLst (aC (vA 1) (aC (vA 2) (a0))))) (b0)))) (vD 3)))))))))))))
noncomputable def d__law_two_right : List AV → T AV := shut (runD 3 17 b__law_two_right)
theorem q__law_two_right : d__law_two_right = runD 3 17 b__law_two_right := shut_eq _
theorem s__law_two_right : FnScope ["pot", "relation", "other", "shown", "words", "things", "some", "names", "near", "far", "due", "told", "turn", "so", "forms", "word", "back"] ["pot", "relation", "other"] (defScope (LawHd.top 49)) := ⟨rfl, rfl, rfl, by decide +kernel, rfl, by decide +kernel, by decide +kernel⟩
theorem g__law_two_right (M : Facts K mg) {base : Heap} (hb : Hb K mg base) : FnG P w K mg base (TbL K) (Cal P w K mg base (TbL K)) "_law_two_right" (LawHd.top 49) ["pot", "relation", "other"] 30 d__law_two_right := by
  rw [q__law_two_right]
  obtain ⟨fd, F⟩ := M.f__law_two_right
  refine fn_g (N := ["pot", "relation", "other", "shown", "words", "things", "some", "names", "near", "far", "due", "told", "turn", "so", "forms", "word", "back"]) F s__law_two_right M.g__law_two_right (by decide) (fun _ _ _ _ _ _ us hl => match us, hl with | [_, _, _], _ => rfl) fun cdv A outer s H hr hgd => ?_
  have hN : (["pot", "relation", "other", "shown", "words", "things", "some", "names", "near", "far", "due", "told", "turn", "so", "forms", "word", "back"] : List Str).Nodup := s__law_two_right.nd
  have hu := room200 hr
  unfold b__law_two_right
  exact psd_cons (psd_par3 rfl hN rfl rfl rfl (by decide) (by decide) (by decide) rfl rfl rfl (pd_frz (pd_blt (cr_reprD hgd hu) ok_repr (by exact rfl) M.b_repr (by decide +kernel) (pab_cons (pb_of (pd_lst (pad_cons (pd_var (pv 1)) (pad_cons (pd_var (pv 2)) (pad_nil))))) (pab_nil)))) (pd_lst (pad_nil)) (pd_frz (pd_blt call_len_seq ok_len (by exact rfl) M.b_len (by decide +kernel) (pab_cons (pb_var (pv 1)) (pab_nil)))) rfl)
      (psd_cons (psd_setLc (own := [("names", 7)]) (g := gN 7) (t := tB (bin eqA (oA (cal (calling 2 d__law_renamed) (aC (vA 1) (aC (vA 7) (a0))))) (vD 2))) (f := vA 7) rfl hN rfl rfl rfl (pid_seq (pg_call (g__law_all_names M hb) (hr.mono (by decide)) hgd (by exact rfl) (pad_cons (pd_var (pv 5)) (pad_nil)))) (blkOk_by (by kernel_rfl)) (only_name) (fun _ _ _ _ _ => pgd_name (pg_name hN rfl (by first | exact Or.inl rfl | exact Or.inr rfl | exact Or.inr (Or.inl rfl) | exact Or.inr (Or.inr rfl)))) (fun _ _ _ _ _ => pts_d1 (ptd_cmp (Dn.OpR.or op_eq (op_eqD (u64 hu))) ok_eqA (pb_of (pg_call (g__law_renamed M hb) (hr.mono (by decide)) hgd (by exact rfl) (pad_cons (pd_var (pv 1)) (pad_cons (pd_var (pv 7)) (pad_nil))))) (pb_var (pv 2)) rfl)) (fun _ _ _ _ _ => pd_var (pv 7)))
      (psd_cons (psd_par rfl hN rfl rfl (by decide) rfl rfl (pd_frz (pg_call (g__law_first M hb) (hr.mono (by decide)) hgd (by exact rfl) (pad_cons (pd_var (pv 1)) (pad_nil)))) (pd_frz (pg_call (g__law_first M hb) (hr.mono (by decide)) hgd (by exact rfl) (pad_cons (pd_var (pv 2)) (pad_nil)))) rfl)
      (psd_cons (psd_set (ps_set hN rfl (by first | exact Or.inl rfl | exact Or.inr rfl | exact Or.inr (Or.inl rfl) | exact Or.inr (Or.inr rfl)) (pd_frz (pd_if (ptd_cmp (Dn.OpR.or op_ne (op_neD (u64 hu))) ok_neA (pb_var (pv 6)) (pb_of (pd_lst (pad_nil))) rfl) (pd_tup (pad_cons (pd_str) (pad_cons (pd_ix ix_seq ok_ix (pb_var (pv 6)) (pb_of (pd_int)) (by intro _ _; rfl)) (pad_nil)))) (pd_tup (pad_cons (pd_str) (pad_cons (pd_tup (pad_cons (pd_var (pv 8)) (pad_cons (pd_var (pv 9)) (pad_nil)))) (pad_nil))))))))
      (psd_cons (psd_set (ps_set hN rfl (by first | exact Or.inl rfl | exact Or.inr rfl | exact Or.inr (Or.inl rfl) | exact Or.inr (Or.inr rfl)) (pd_frz (pg_call (g_alike_paper M hb) (hr.mono (by decide)) hgd (by exact rfl) (pad_cons (pd_var (pv 1)) (pad_cons (pd_var (pv 2)) (pad_nil)))))))
      (psd_cons (psd_if (PW.pt (pwd_or (ptd_cmp (Dn.OpR.or op_ne (op_neD (u64 hu))) ok_neA (pb_of (pd_blt (cr_reprD hgd hu) ok_repr (by exact rfl) M.b_repr (by decide +kernel) (pab_cons (pb_of (pd_lst (pad_cons (pd_var (pv 11)) (pad_cons (pg_callK0 (ks := ["other", "relation"]) [1, 0] (g_alike_paper M hb) (hr.mono (by decide)) hgd (by exact rfl) (fun _ _ _ _ _ _ us ws hl hus => by subst hus; exact match ws, hl with | _ :: _ :: _, _ => rfl) (pkd_cons (pd_var (pv 2)) (pkd_cons (pd_var (pv 1)) (pkd_nil)))) (pad_nil))))) (pab_nil)))) (pb_of (pd_blt (cr_reprD hgd hu) ok_repr (by exact rfl) M.b_repr (by decide +kernel) (pab_cons (pb_of (pd_lst (pad_cons (pd_var (pv 10)) (pad_cons (pd_var (pv 10)) (pad_nil))))) (pab_nil)))) rfl) (pwd_or (ptd_cmp op_notBl ok_notB (pb_of (pg_call (g_is_alike_paper M hb) (hr.mono (by decide)) hgd (by exact rfl) (pad_cons (pd_var (pv 1)) (pad_cons (pd_var (pv 2)) (pad_cons (pd_var (pv 11)) (pad_nil)))))) (pb_of (pd_bl)) rfl) (pwd_or1 (ptd_cmp (Dn.OpR.or op_ne (op_neD (u64 hu))) ok_neA (pb_of (pg_call (g_are_alike M hb) (hr.mono (by decide)) hgd (by exact rfl) (pad_cons (pd_var (pv 1)) (pad_cons (pd_var (pv 2)) (pad_nil))))) (pb_of (pd_cmp (Dn.OpR.or op_ne (op_neD (u64 hu))) ok_neA (pb_var (pv 6)) (pb_of (pd_lst (pad_nil))) rfl)) rfl))))) (psd_one (psd_ret (pd_bl))) (psd_nil))
      (psd_cons (psd_for PassesOwn.never rfl (pid_range1 (by exact rfl) M.b_range (pb_of (pd_int))) (pgd_name (pg_name hN rfl (by first | exact Or.inl rfl | exact Or.inr rfl | exact Or.inr (Or.inl rfl) | exact Or.inr (Or.inr rfl)))) (psd_cons (psd_set (ps_set hN rfl (by first | exact Or.inl rfl | exact Or.inr rfl | exact Or.inr (Or.inl rfl) | exact Or.inr (Or.inr rfl)) (pd_frz (pg_call (g__law_pick M hb) (hr.mono (by decide)) hgd (by exact rfl) (pad_cons (pd_var (pv 0)) (pad_cons (pd_lst (pad_cons (pg_call (g__law_mixed M hb) (hr.mono (by decide)) hgd (by exact rfl) (pad_cons (pd_var (pv 0)) (pad_cons (pd_listRg rfl (by exact rfl) M.b_list (by exact rfl) M.b_range (pb_var (pv 5))) (pad_nil)))) (pad_cons (pd_if (ptd_cmp (Dn.OpR.or op_ne (op_neD (u64 hu))) ok_neA (pb_var (pv 6)) (pb_of (pd_lst (pad_nil))) rfl) (pd_ix ix_seq ok_ix (pb_var (pv 6)) (pb_of (pd_int)) (by intro _ _; rfl)) (pd_listRg rfl (by exact rfl) M.b_list (by exact rfl) M.b_range (pb_var (pv 5)))) (pad_nil)))) (pad_nil)))))))
      (psd_cons (psd_set (ps_set hN rfl (by first | exact Or.inl rfl | exact Or.inr rfl | exact Or.inr (Or.inl rfl) | exact Or.inr (Or.inr rfl)) (pd_frz (pd_cmp (Dn.OpR.or op_eq (op_eqD (u64 hu))) ok_eqA (pb_of (pg_call (g__law_renamed M hb) (hr.mono (by decide)) hgd (by exact rfl) (pad_cons (pd_var (pv 1)) (pad_cons (pd_var (pv 7)) (pad_nil))))) (pb_var (pv 2)) rfl))))
      (psd_cons (psd_if (ptd_cmp (Dn.OpR.or op_ne (op_neD (u64 hu))) ok_neA (pb_of (pd_blt (cr_reprD hgd hu) ok_repr (by exact rfl) M.b_repr (by decide +kernel) (pab_cons (pb_of (pd_lst (pad_cons (pg_call (g_is_alike_paper M hb) (hr.mono (by decide)) hgd (by exact rfl) (pad_cons (pd_var (pv 1)) (pad_cons (pd_var (pv 2)) (pad_cons (pd_tup (pad_cons (pd_str) (pad_cons (pd_ty call_list_of ok_list (by exact rfl) M.b_list (by decide +kernel) (pab_cons (pb_var (pv 7)) (pab_nil))) (pad_nil)))) (pad_nil))))) (pad_cons (pg_callK0 (ks := ["value", "other", "relation"]) [2, 1, 0] (g_is_alike_paper M hb) (hr.mono (by decide)) hgd (by exact rfl) (fun _ _ _ _ _ _ us ws hl hus => by subst hus; exact match ws, hl with | _ :: _ :: _ :: _, _ => rfl) (pkd_cons (pd_tup (pad_cons (pd_str) (pad_cons (pd_ty call_tuple_of ok_tuple (by exact rfl) M.b_tuple (by decide +kernel) (pab_cons (pb_var (pv 7)) (pab_nil))) (pad_nil)))) (pkd_cons (pd_var (pv 2)) (pkd_cons (pd_var (pv 1)) (pkd_nil))))) (pad_nil))))) (pab_nil)))) (pb_of (pd_blt (cr_reprD hgd hu) ok_repr (by exact rfl) M.b_repr (by decide +kernel) (pab_cons (pb_of (pd_lst (pad_cons (pd_var (pv 13)) (pad_cons (pd_var (pv 13)) (pad_nil))))) (pab_nil)))) rfl) (psd_one (psd_ret (pd_bl))) (psd_nil))
      (psd_one (psd_extend (pv 4) (pd_if (ptd_val (pd_var (pv 13))) (pd_lst (pad_cons (pd_str) (pad_nil))) (pd_lst (pad_nil)))))))))
      (psd_cons (psd_for PassesOwn.never rfl (pid_seq (pd_lst (pad_cons (pd_tup (pad_cons (pd_var (pv 8)) (pad_cons (pd_var (pv 9)) (pad_nil)))) (pad_cons (pd_tup (pad_cons (pd_var (pv 9)) (pad_cons (pd_var (pv 8)) (pad_nil)))) (pad_cons (pd_tup (pad_cons (pd_var (pv 1)) (pad_cons (pd_var (pv 2)) (pad_nil)))) (pad_cons (pd_tup (pad_cons (pd_var (pv 8)) (pad_cons (pd_var (pv 8)) (pad_nil)))) (pad_cons (pd_tup (pad_cons (pd_var (pv 8)) (pad_cons (pd_var (pv 1)) (pad_nil)))) (pad_nil)))))))) (pgd_name (pg_name hN rfl (by first | exact Or.inl rfl | exact Or.inr rfl | exact Or.inr (Or.inl rfl) | exact Or.inr (Or.inr rfl)))) (psd_cons (psd_set (ps_set hN rfl (by first | exact Or.inl rfl | exact Or.inr rfl | exact Or.inr (Or.inl rfl) | exact Or.inr (Or.inr rfl)) (pd_frz (pd_and (pd_cmp (Dn.OpR.or op_eq (op_eqD (u64 hu))) ok_eqA (pb_var (pv 14)) (pb_of (pd_tup (pad_cons (pd_var (pv 8)) (pad_cons (pd_var (pv 9)) (pad_nil))))) rfl) (pd_one (pd_cmp (Dn.OpR.or op_ne (op_neD (u64 hu))) ok_neA (pb_var (pv 8)) (pb_var (pv 9)) rfl))))))
      (psd_cons (psd_if (ptd_cmp (Dn.OpR.or op_ne (op_neD (u64 hu))) ok_neA (pb_of (pd_blt (cr_reprD hgd hu) ok_repr (by exact rfl) M.b_repr (by decide +kernel) (pab_cons (pb_of (pd_lst (pad_cons (pg_call (g_is_alike_paper M hb) (hr.mono (by decide)) hgd (by exact rfl) (pad_cons (pd_var (pv 1)) (pad_cons (pd_var (pv 2)) (pad_cons (pd_tup (pad_cons (pd_str) (pad_cons (pd_var (pv 14)) (pad_nil)))) (pad_nil))))) (pad_cons (pg_callK0 (ks := ["value", "other", "relation"]) [2, 1, 0] (g_is_alike_paper M hb) (hr.mono (by decide)) hgd (by exact rfl) (fun _ _ _ _ _ _ us ws hl hus => by subst hus; exact match ws, hl with | _ :: _ :: _ :: _, _ => rfl) (pkd_cons (pd_tup (pad_cons (pd_str) (pad_cons (pd_var (pv 14)) (pad_nil)))) (pkd_cons (pd_var (pv 2)) (pkd_cons (pd_var (pv 1)) (pkd_nil))))) (pad_nil))))) (pab_nil)))) (pb_of (pd_blt (cr_reprD hgd hu) ok_repr (by exact rfl) M.b_repr (by decide +kernel) (pab_cons (pb_of (pd_lst (pad_cons (pd_var (pv 13)) (pad_cons (pd_var (pv 13)) (pad_nil))))) (pab_nil)))) rfl) (psd_one (psd_ret (pd_bl))) (psd_nil))
      (psd_one (psd_extend (pv 4) (pd_if (ptd_val (pd_var (pv 13))) (pd_lst (pad_cons (pd_str) (pad_nil))) (pd_lst (pad_nil))))))))
      (psd_cons (psd_share [4] (psd_if (ptd_cmp (Dn.OpR.or op_ne (op_neD (u64 hu))) ok_neA (pb_of (pd_lc (own := [("word", 15)]) (g := gN 15) (t := tB (bin neA (vD 15) (oA (bin ixD (vD 11) (oA (kA (.int 0))))))) (f := vA 15) rfl hN (pid_seq (pd_var (pv 4))) (blkOk_by (by kernel_rfl)) (only_name) (fun _ _ _ _ _ => pgd_name (pg_name hN rfl (by first | exact Or.inl rfl | exact Or.inr rfl | exact Or.inr (Or.inl rfl) | exact Or.inr (Or.inr rfl)))) (fun _ _ _ _ _ => pts_d1 (ptd_cmp (Dn.OpR.or op_ne (op_neD (u64 hu))) ok_neA (pb_var (pv 15)) (pb_of (pd_ix ix_seq ok_ix (pb_var (pv 11)) (pb_of (pd_int)) (by intro _ _; rfl))) rfl)) (fun _ _ _ _ _ => pd_var (pv 15)))) (pb_of (pd_lst (pad_nil))) rfl) (psd_one (psd_ret (pd_bl))) (psd_nil)))
      (psd_cons (psd_set (ps_set hN rfl (by first | exact Or.inl rfl | exact Or.inr rfl | exact Or.inr (Or.inl rfl) | exact Or.inr (Or.inr rfl)) (pd_frz (pg_call (g_alike_paper M hb) (hr.mono (by decide)) hgd (by exact rfl) (pad_cons (pd_var (pv 2)) (pad_cons (pd_var (pv 1)) (pad_nil)))))))
      (psd_cons (psd_if (PW.pt (pwd_or (ptd_cmp (Dn.OpR.or op_ne (op_neD (u64 hu))) ok_neA (pb_of (pd_ix ix_seq ok_ix (pb_var (pv 16)) (pb_of (pd_int)) (by intro _ _; rfl))) (pb_of (pd_ix ix_seq ok_ix (pb_var (pv 11)) (pb_of (pd_int)) (by intro _ _; rfl))) rfl) (pwd_or1 (PW.pt (pwd_and (ptd_cmp (Dn.OpR.or op_eq (op_eqD (u64 hu))) ok_eqA (pb_of (pd_ix ix_seq ok_ix (pb_var (pv 11)) (pb_of (pd_int)) (by intro _ _; rfl))) (pb_of (pd_str)) rfl) (pwd_and1 (ptd_cmp (Dn.OpR.or op_ne (op_neD (u64 hu))) ok_neA (pb_of (pd_ix ix_seq ok_ix (pb_var (pv 16)) (pb_of (pd_int)) (by intro _ _; rfl))) (pb_of (pd_tup (pad_cons (pd_var (pv 9)) (pad_cons (pd_var (pv 8)) (pad_nil))))) rfl))))))) (psd_one (psd_ret (pd_bl))) (psd_nil))
      (psd_one (psd_ret (pd_cmp (Dn.OpR.or op_eq (op_eqD (u64 hu))) ok_eqA (pb_of (pd_blt (cr_reprD hgd hu) ok_repr (by exact rfl) M.b_repr (by decide +kernel) (pab_cons (pb_of (pd_lst (pad_cons (pd_var (pv 1)) (pad_cons (pd_var (pv 2)) (pad_nil))))) (pab_nil)))) (pb_var (pv 3)) rfl)))))))))))))
noncomputable def b__law_right : Dn.Env → T Out := seqD (setD 1 (fzA (cal (calling 2 d__law_relation) (aC (vA 0) (aC (kA (.int 5)) (a0)))))) (seqD (setD 2 (fzA (cal (calling 2 d__law_mixed) (aC (vA 0) (aC (cal (rgD .own) (oA (cal lenD (bC (vD 1) (b0))))) (a0)))))) (seqD (setD 3 (fzA (cal (calling 2 d_renamed) (aC (vA 1) (aC (cal listD (bC (vD 2) (b0))) (a0)))))) (seqD (ifD (tNot (tB (cal (calling 3 d__law_two_right) (aC (vA 0) (aC (vA 1) (aC (vA 3) (a0))))))) (sRet (kA (.bool false))) (sNil)) (seqD (setD 4 (fzA (cal (calling 3 d_with_pair) (aC (vA 3) (aC (cal (calling 2 d__law_draw) (aC (vA 0) (aC (cal lenD (bC (vD 1) (b0))) (a0)))) (aC (cal (calling 2 d__law_draw) (aC (vA 0) (aC (cal lenD (bC (vD 1) (b0))) (a0)))) (a0))))))) (seqD (ifD (tOr (tNot (tB (cal (calling 3 d__law_two_right) (aC (vA 0) (aC (vA 1) (aC (vA 4) (a0))))))) (tB (bin neA (oA (bin ixD (oA (cal (calling 2 d_alike_paper) (aC (vA 1) (aC (vA 4) (a0))))) (oA (kA (.int 0))))) (oA (kA (.str "forms")))))) (sRet (kA (.bool false))) (sNil)) (seqD (setD 5 (fzA (cal (calling 3 d_with_pair) (aC (vA 4) (aC (cal (calling 2 d__law_draw) (aC (vA 0) (aC (cal lenD (bC (vD 1) (b0))) (a0)))) (aC (cal (calling 2 d__law_draw) (aC (vA 0) (aC (cal lenD (bC (vD 1) (b0))) (a0)))) (a0))))))) (sRet (cal (calling 3 d__law_two_right) (aC (vA 0) (aC (vA 1) (aC (vA 5) (a0))))))))))))
noncomputable def d__law_right : List AV → T AV := shut (runD 1 6 b__law_right)
theorem q__law_right : d__law_right = runD 1 6 b__law_right := shut_eq _
theorem s__law_right : FnScope ["pot", "relation", "names", "late", "other", "third"] ["pot"] (defScope (LawHd.top 50)) := ⟨rfl, rfl, rfl, by decide +kernel, rfl, by decide +kernel, by decide +kernel⟩
theorem g__law_right (M : Facts K mg) {base : Heap} (hb : Hb K mg base) : FnG P w K mg base (TbL K) (Cal P w K mg base (TbL K)) "_law_right" (LawHd.top 50) ["pot"] 31 d__law_right := by
  rw [q__law_right]
  obtain ⟨fd, F⟩ := M.f__law_right
  refine fn_g (N := ["pot", "relation", "names", "late", "other", "third"]) F s__law_right M.g__law_right (by decide) (fun _ _ _ _ _ _ us hl => match us, hl with | [_], _ => rfl) fun cdv A outer s H hr hgd => ?_
  have hN : (["pot", "relation", "names", "late", "other", "third"] : List Str).Nodup := s__law_right.nd
  have hu := room200 hr
  unfold b__law_right
  exact psd_cons (psd_set (ps_set hN rfl (by first | exact Or.inl rfl | exact Or.inr rfl | exact Or.inr (Or.inl rfl) | exact Or.inr (Or.inr rfl)) (pd_frz (pg_call (g__law_relation M hb) (hr.mono (by decide)) hgd (by exact rfl) (pad_cons (pd_var (pv 0)) (pad_cons (pd_int) (pad_nil)))))))
      (psd_cons (psd_set (ps_set hN rfl (by first | exact Or.inl rfl | exact Or.inr rfl | exact Or.inr (Or.inl rfl) | exact Or.inr (Or.inr rfl)) (pd_frz (pg_call (g__law_mixed M hb) (hr.mono (by decide)) hgd (by exact rfl) (pad_cons (pd_var (pv 0)) (pad_cons (pd_listRg rfl (by exact rfl) M.b_list (by exact rfl) M.b_range (pb_of (pd_blt call_len_seq ok_len (by exact rfl) M.b_len (by decide +kernel) (pab_cons (pb_var (pv 1)) (pab_nil))))) (pad_nil)))))))
      (psd_cons (psd_set (ps_set hN rfl (by first | exact Or.inl rfl | exact Or.inr rfl | exact Or.inr (Or.inl rfl) | exact Or.inr (Or.inr rfl)) (pd_frz (pg_call (g_renamed M hb) (hr.mono (by decide)) hgd (by exact rfl) (pad_cons (pd_var (pv 1)) (pad_cons (pd_ty call_list_of ok_list (by exact rfl) M.b_list (by decide +kernel) (pab_cons (pb_var (pv 2)) (pab_nil))) (pad_nil)))))))
      (psd_cons (psd_if (ptd_not (ptd_val (pg_call (g__law_two_right M hb) (hr.mono (by decide)) hgd (by exact rfl) (pad_cons (pd_var (pv 0)) (pad_cons (pd_var (pv 1)) (pad_cons (pd_var (pv 3)) (pad_nil))))))) (psd_one (psd_ret (pd_bl))) (psd_nil))
      (psd_cons (psd_set (ps_set hN rfl (by first | exact Or.inl rfl | exact Or.inr rfl | exact Or.inr (Or.inl rfl) | exact Or.inr (Or.inr rfl)) (pd_frz (pg_call (g_with_pair M hb) (hr.mono (by decide)) hgd (by exact rfl) (pad_cons (pd_var (pv 3)) (pad_cons (pg_call (g__law_draw M hb) (hr.mono (by decide)) hgd (by exact rfl) (pad_cons (pd_var (pv 0)) (pad_cons (pd_blt call_len_seq ok_len (by exact rfl) M.b_len (by decide +kernel) (pab_cons (pb_var (pv 1)) (pab_nil))) (pad_nil)))) (pad_cons (pg_call (g__law_draw M hb) (hr.mono (by decide)) hgd (by exact rfl) (pad_cons (pd_var (pv 0)) (pad_cons (pd_blt call_len_seq ok_len (by exact rfl) M.b_len (by decide +kernel) (pab_cons (pb_var (pv 1)) (pab_nil))) (pad_nil)))) (pad_nil))))))))
      (psd_cons (psd_if (PW.pt (pwd_or (ptd_not (ptd_val (pg_call (g__law_two_right M hb) (hr.mono (by decide)) hgd (by exact rfl) (pad_cons (pd_var (pv 0)) (pad_cons (pd_var (pv 1)) (pad_cons (pd_var (pv 4)) (pad_nil))))))) (pwd_or1 (ptd_cmp (Dn.OpR.or op_ne (op_neD (u64 hu))) ok_neA (pb_of (pd_ix ix_seq ok_ix (pb_of (pg_call (g_alike_paper M hb) (hr.mono (by decide)) hgd (by exact rfl) (pad_cons (pd_var (pv 1)) (pad_cons (pd_var (pv 4)) (pad_nil))))) (pb_of (pd_int)) (by intro _ _; rfl))) (pb_of (pd_str)) rfl)))) (psd_one (psd_ret (pd_bl))) (psd_nil))
      (psd_cons (psd_set (ps_set hN rfl (by first | exact Or.inl rfl | exact Or.inr rfl | exact Or.inr (Or.inl rfl) | exact Or.inr (Or.inr rfl)) (pd_frz (pg_call (g_with_pair M hb) (hr.mono (by decide)) hgd (by exact rfl) (pad_cons (pd_var (pv 4)) (pad_cons (pg_call (g__law_draw M hb) (hr.mono (by decide)) hgd (by exact rfl) (pad_cons (pd_var (pv 0)) (pad_cons (pd_blt call_len_seq ok_len (by exact rfl) M.b_len (by decide +kernel) (pab_cons (pb_var (pv 1)) (pab_nil))) (pad_nil)))) (pad_cons (pg_call (g__law_draw M hb) (hr.mono (by decide)) hgd (by exact rfl) (pad_cons (pd_var (pv 0)) (pad_cons (pd_blt call_len_seq ok_len (by exact rfl) M.b_len (by decide +kernel) (pab_cons (pb_var (pv 1)) (pab_nil))) (pad_nil)))) (pad_nil))))))))
      (psd_one (psd_ret (pg_call (g__law_two_right M hb) (hr.mono (by decide)) hgd (by exact rfl) (pad_cons (pd_var (pv 0)) (pad_cons (pd_var (pv 1)) (pad_cons (pd_var (pv 5)) (pad_nil)))))))))))))
noncomputable def b_law : Dn.Env → T Out := sRet (cal allD (bC (oA (lcD [1] (itR (oA (cal max2D (bC (oA (kA (.int 1))) (bC (oA (cal min2D (bC (oA (kA (.int 2))) (bC (oA (cal lenD (bC (vD 0) (b0)))) (b0))))) (b0)))))) (gN 1) (lcTest0) (cal (calling 1 d__law_right) (aC (cal (calling 2 d__law_pot) (aC (vA 0) (aC (vA 1) (a0)))) (a0))))) (b0)))
noncomputable def d_law : List AV → T AV := shut (runD 1 2 b_law)
theorem q_law : d_law = runD 1 2 b_law := shut_eq _
theorem s_law : FnScope ["script", "k"] ["script"] (defScope (LawHd.top 51)) := ⟨rfl, rfl, rfl, by decide +kernel, rfl, by decide +kernel, by decide +kernel⟩
theorem g_law (M : Facts K mg) {base : Heap} (hb : Hb K mg base) : FnG P w K mg base (TbL K) (Cal P w K mg base (TbL K)) "law" (LawHd.top 51) ["script"] 32 d_law := by
  rw [q_law]
  obtain ⟨fd, F⟩ := M.f_law
  refine fn_g (N := ["script", "k"]) F s_law M.g_law (by decide) (fun _ _ _ _ _ _ us hl => match us, hl with | [_], _ => rfl) fun cdv A outer s H hr hgd => ?_
  have hN : (["script", "k"] : List Str).Nodup := s_law.nd
  have hu := room200 hr
  unfold b_law
  exact psd_one (psd_ret (pd_blt (cr_all rfl) ok_bools (by exact rfl) M.b_all (by decide +kernel) (pab_cons (pb_of (pd_lc (own := [("k", 1)]) (g := gN 1) (t := lcTest0) (f := cal (calling 1 d__law_right) (aC (cal (calling 2 d__law_pot) (aC (vA 0) (aC (vA 1) (a0)))) (a0))) rfl hN (pid_range1 (by exact rfl) M.b_range (pb_of (pd_blt (call_max2 rfl) ok_max2 (by exact rfl) M.b_max (by decide +kernel) (pab_cons (pb_of (pd_int)) (pab_cons (pb_of (pd_blt (call_min2 rfl) ok_min2 (by exact rfl) M.b_min (by decide +kernel) (pab_cons (pb_of (pd_int)) (pab_cons (pb_of (pd_blt call_len_seq ok_len (by exact rfl) M.b_len (by decide +kernel) (pab_cons (pb_var (pv 0)) (pab_nil)))) (pab_nil))))) (pab_nil)))))) (blkOk_by (by kernel_rfl)) (only_name) (fun _ _ _ _ _ => pgd_name (pg_name hN rfl (by first | exact Or.inl rfl | exact Or.inr rfl | exact Or.inr (Or.inl rfl) | exact Or.inr (Or.inr rfl)))) (fun _ _ _ _ _ => pts_d0) (fun _ _ _ _ _ => pg_call (g__law_right M hb) (hr.mono (by decide)) hgd (by exact rfl) (pad_cons (pg_call (g__law_pot M hb) (hr.mono (by decide)) hgd (by exact rfl) (pad_cons (pd_var (pv 0)) (pad_cons (pd_var (pv 1)) (pad_nil)))) (pad_nil))))) (pab_nil))))
end
end Wk
end
section
set_option Elab.async false
set_option linter.all false
set_option autoImplicit false
set_option maxRecDepth 100000
/-! EndG: the end of a law whose def is known by FnG. -/
namespace Dn
open PySem PySem.Spec PyProof.Rows L2 LamX

section
variable (K : PySem.W.Frag) (ts : List Addr) (a : Addr) (o : Obj) (xs : List V)
open Classical in
/-- what is tracked at the start: the script, the tables -/
noncomputable def hp0 : Hp := fun b => if b = a ∧ K.lookup a = none then some (.frz o (.lst xs)) else if b ∈ ts then some (.tbl #[]) else none
open Classical in
noncomputable def ph0 : Hp := fun b => if b = a ∧ K.lookup a = none then some (.frz o (.lst xs)) else none
variable {K ts a o xs}
theorem hp0_some {b : Addr} {u : HO} (h : hp0 K ts a o xs b = some u) : (b = a ∧ K.lookup a = none ∧ u = .frz o (.lst xs)) ∨ (b ∈ ts ∧ u = .tbl #[]) := by
  unfold hp0 at h
  split at h
  · rename_i q
    exact .inl ⟨q.1, q.2, (Option.some.inj h).symm⟩
  · split at h
    · rename_i q
      exact .inr ⟨q, (Option.some.inj h).symm⟩
    · cases h
theorem ph0_some {b : Addr} {u : HO} (h : ph0 K a o xs b = some u) : b = a ∧ K.lookup a = none ∧ u = .frz o (.lst xs) := by
  unfold ph0 at h
  split at h
  · rename_i q
    exact ⟨q.1, q.2, (Option.some.inj h).symm⟩
  · cases h
theorem ph0_le {b : Addr} {u : HO} (h : ph0 K a o xs b = some u) : hp0 K ts a o xs b = some u := by
  obtain ⟨h1, h2, h3⟩ := ph0_some h
  unfold hp0
  rw [if_pos ⟨h1, h2⟩, h3]
theorem hp0_tab {b : Addr} (hb : b ∈ ts) (ha : a ∉ ts) : hp0 K ts a o xs b = some (.tbl #[]) := by
  unfold hp0
  rw [if_neg (fun q : b = a ∧ K.lookup a = none => ha (q.1 ▸ hb)), if_pos hb]
end
theorem data_of {o o' : Obj} (h : o = o') : o.data = o'.data := congrArg Obj.data h
theorem law_callG {P : Program} {w : World} {K : PySem.W.Frag} {mg mb : Str → Option Value} {k : Nat} {fa a : Addr} {cs : List (Addr × Addr)} {Tb : List (Addr × Str)} {x arg : Str} {st : Stmt} {d : List AV → T AV} {s₁ : Shared} {vs : List Value} {ns : List Int}
    (KX : K.In s₁.heap) (hns : s₁.heap.Ns mainGlobals mg) (hb : s₁.heap.Ns builtinsNs mb) (hbb : ∀ x : Str, x ≠ "__name__" → mb x = bootBuiltins x) (hlim : s₁.heap.NoLimit) (hg : s₁.gens = #[])
    (hT : ∀ p ∈ cs, s₁.heap.get? p.2 = some { cls := .none, data := .fields #[] }) (nT : ∀ p ∈ cs, K.lookup p.2 = none) (C : ∀ p ∈ cs, PySem.W.CodeHd s₁.heap p.1 p.2)
    (hbm : ∃ (bm : Addr) (ob : Obj), mg "__builtins__" = some (.ref bm) ∧ bm ≠ builtinsNs ∧ s₁.heap.get? bm = some ob ∧ ob.cls = .type "module" ∧ ob.dict = some builtinsNs ∧ ob.data = .plain)
    (ha : s₁.heap.get? a = some { cls := .type "list", data := .seq vs.toArray }) (hi : IntsAre vs ns) (hl : ns.length ≤ sizeLine) (hr : Room k callerA)
    (hfa : mg x = some (.ref fa)) (hTb : ∀ p ∈ Tb, p.1 ∈ cs.map (·.2))
    (G : ∀ base : Heap, K.In base → base.Ns mainGlobals mg → (∀ p ∈ cs, TabB base mg p.1 p.2) → FnG P w K mg base Tb (Cal P w K mg base Tb) x st [arg] k d)
    (hd : Hold (d [.sh (.list (ns.map PyData.int))]) fun av => av = .sh (.bool true)) :
    codeAny (model P w) callerA (.call (.ref fa) ⟨[.ref a], []⟩) (fun r s' => r = .ok (.ret (.bool true)) ∧ OldK s₁.heap s'.heap ∧ s'.os = s₁.os ∧ AllBare s'.gens) s₁ := by
  let lo : Obj := { cls := .type "list", data := .seq vs.toArray }
  let ts : List Addr := cs.map (·.2)
  let H : Hp := hp0 K ts a lo (ns.map V.int)
  let W : Wd := ⟨ph0 K a lo (ns.map V.int), fun _ => False⟩
  have rv := vals_ints hi
  have tabAt : ∀ b, b ∈ ts → s₁.heap.get? b = some { cls := .none, data := .fields #[] } := fun b hb => by
    obtain ⟨p, hp, rfl⟩ := List.mem_map.mp hb
    exact hT p hp
  have tabC : ∀ b, b ∈ ts → ∃ c, PySem.W.CodeHd s₁.heap c b := fun b hb => by
    obtain ⟨p, hp, rfl⟩ := List.mem_map.mp hb
    exact ⟨p.1, C p hp⟩
  have aT : a ∉ ts := fun z => by
    have q := data_of (Option.some.inj (ha.symm.trans (tabAt a z)))
    cases q
  have hok : HOk P w H s₁.heap := fun b u e => by
    rcases hp0_some e with ⟨rfl, _, rfl⟩ | ⟨hb, rfl⟩
    · exact ⟨ha, by rw [List.length_map]; exact hl, vs, _, rv, ha⟩
    · exact tabAt b hb
  -- whatever is no script and no table is not tracked
  have free : ∀ {b : Addr} {u : Obj}, s₁.heap.get? b = some u → (∀ vs n, u.data ≠ .seq vs n) → u.data ≠ .fields #[] → H b = none := fun {b u} e h1 h2 => by
    cases q : H b with
    | none => rfl
    | some z =>
      rcases hp0_some q with ⟨rfl, _, _⟩ | ⟨hb, _⟩
      · exact absurd (data_of (Option.some.inj (e.symm.trans ha))) (h1 _ _)
      · exact absurd (data_of (Option.some.inj (e.symm.trans (tabAt b hb)))) h2
  have kept : ∀ {b : Addr} {u : Obj}, s₁.heap.get? b = some u → H b = none → (hidT s₁.heap H).get? b = some u := fun e n => hidT_get e n
  have dicts : ∀ {b : Addr} {m : Str → Option Value}, s₁.heap.Ns b m → (hidT s₁.heap H).Ns b m := fun {b m} ⟨u, es, ep, e, dd, r⟩ =>
    ⟨u, es, ep, kept e (free e (fun _ _ z => by rw [dd] at z; cases z) fun z => by rw [dd] at z; cases z), dd, r⟩
  have inK : K.In (hidT s₁.heap H) := fun b u e => kept (KX b u e) (by
    cases q : H b with
    | none => rfl
    | some z =>
      rcases hp0_some q with ⟨rfl, h2, _⟩ | ⟨hb, _⟩
      · rw [h2] at e
        cases e
      · obtain ⟨p, hp, rfl⟩ := List.mem_map.mp hb
        rw [nT p hp] at e
        cases e)
  have TB : ∀ p ∈ cs, TabB (hidT s₁.heap H) mg p.1 p.2 := fun p hp => by
    refine ⟨?_, ?_, fun z => ?_⟩
    · obtain ⟨u, us, file, tf, flags, tg, inF, text, tt, e1, r1, r2, r3, rest⟩ := C p hp
      refine ⟨u, us, file, tf, flags, tg, inF, text, tt, kept e1 (free e1 (fun _ _ z => ?_) fun z => ?_), r1, r2, r3, rest⟩
      · rw [r2] at z
        cases z
      · rw [r2] at z
        cases z
        simp at r3
    · obtain ⟨bm, ob, b1, b2, b3, b4, b5, b6⟩ := hbm
      refine ⟨bm, ob, b1, b2, fun q => ?_, fun q => ?_, kept b3 (free b3 (fun _ _ z => by rw [b6] at z; cases z) fun z => by rw [b6] at z; cases z), b4, b5, b6⟩
      · obtain ⟨u, es, ep, e, hdd, _⟩ := hns
        rw [q, e] at b3
        cases b3
        rw [hdd] at b6
        cases b6
      · rw [q, hT p hp] at b3
        cases b3
        cases b6
    · obtain ⟨u, es, ep, e, hdd, _⟩ := hns
      rw [z, hT p hp] at e
      cases e
      cases hdd
  have e0 : Env0 P w K mg (hidT s₁.heap H) callerA [] s₁ H := by
    refine ⟨rfl, ⟨inK, dicts hns, ⟨mb, dicts hb, hbb⟩, ?_⟩, fun b u e => of_hidT e, Nat.le_of_eq (hidT_size _ _), trivial, fun b hb => absurd (show b ∈ ([] : List Addr) from hb) (by simp), hok, .of_eq hg⟩
    obtain ⟨mc, h1, h2⟩ := hlim
    exact ⟨mc, dicts h1, h2⟩
  have nn : ∀ {u : HO}, (none : Option HO) = some u → False := fun {u} e => by cases e
  have wk : WOk Tb W (fun _ => none) H := by
    refine ⟨fun b u e => ph0_le e, fun b u e => (nn e).elim, fun b u e => (nn e).elim, fun b z => z.elim, fun p hp => TabS.nil (hp0_tab (hTb p hp) aT), fun b u e ps z => ?_, fun b ys e => ?_, fun b u e => (nn e).elim⟩
    · rcases e with e | e
      · obtain ⟨_, _, rfl⟩ := ph0_some e
        cases z
      · exact nn e
    · rcases e with (e | ⟨u, e⟩) | (e | ⟨u, e⟩)
      · obtain ⟨_, _, q⟩ := ph0_some e
        cases q
      · obtain ⟨_, _, q⟩ := ph0_some e
        cases q
        rw [List.length_map]
        exact hl
      · obtain ⟨_, _, q⟩ := ph0_some e
        cases q
      · obtain ⟨_, _, q⟩ := ph0_some e
        cases q
  have sq : SqL K W.Φ a (ns.map V.int) := by
    cases hk : K.lookup a with
    | none => exact .inl (.inr ⟨lo, by show ph0 K a lo (ns.map V.int) a = _; unfold ph0; rw [if_pos ⟨rfl, hk⟩]⟩)
    | some u =>
      have e := KX a u hk
      rw [ha] at e
      cases e
      exact .inr ⟨_, vs.toArray, _, hk, rfl, rfl, rfl, by rw [List.size_toArray, hi.length]; exact hl, by simpa using rv⟩
  obtain ⟨fd, FD, bd, hm, run⟩ := (G _ inK (dicts hns) TB).ex
  rw [hfa] at hm
  obtain rfl : fa = He.ga K x := Value.ref.inj (Option.some.inj hm)
  have bt := bd s₁ [.ref a] KX rfl
  rw [List.append_nil] at bt
  refine codeAny_mono (run callerA [] s₁ H ⟨[.ref a], []⟩ [.ref a] [.ref a] (fun v _ => v = .bl true) hr rfl e0 bt (.cons rfl .nil)
    ⟨W, fun _ => none, [.sh (.list (ns.map PyData.int))], wk, .cons (.lst sq (DpAll.ints ns)) .nil, rfl, hd.mono fun av z => by
      subst z
      intro W' H' v _ _ hv
      cases hv
      rfl⟩) fun r s' h => ?_
  cases r with
  | error e => exact False.elim h
  | ok fl => cases fl with
    | ret u =>
      obtain ⟨v, H', os, bare, un, hok', r', rfl⟩ := h
      obtain rfl : u = Value.bool true := r'
      have same : ∀ b u, b ∉ ts → s₁.heap.get? b = some u → s'.heap.get? b = some u := fun b u nb e => by
        cases q : H b with
        | none => exact un.keep b u e q (fun z => absurd (show b ∈ ([] : List Addr) from z) (by simp)) (by simp)
        | some z =>
          rcases hp0_some q with ⟨rfl, _, rfl⟩ | ⟨hb, _⟩
          · obtain ⟨e1, _⟩ := hok b _ q
            obtain ⟨e2, _⟩ := hok' b _ (un.frzs b lo _ q)
            rw [← Option.some.inj (e1.symm.trans e)]
            exact e2
          · exact absurd hb nb
      have more : ∀ b, b ∈ ts → ∃ ms : Array Value, s'.heap.get? b = some { cls := .none, data := .fields ms } := fun b hb => by
        obtain ⟨ms, z⟩ := un.tbls b #[] (hp0_tab hb aT)
        exact ⟨_, hok' b _ z⟩
      refine ⟨rfl, ⟨fun b u e => ?_, fun b u e => ?_⟩, os, bare⟩
      · by_cases nb : b ∈ ts
        · obtain ⟨ms, hms⟩ := more b nb
          obtain ⟨c, hc⟩ := tabC b nb
          have ht := tabAt b nb
          rw [ht] at e
          cases e
          exact .inr (.inl ⟨(hc.tab ht).isCodeTable, rfl, #[], ms, rfl, by rw [Array.empty_append]; exact hms⟩)
        · exact .inl (same b u nb e)
      · by_cases nb : b ∈ ts
        · obtain ⟨ms, hms⟩ := more b nb
          exact ⟨_, hms⟩
        · exact ⟨u, same b u nb e⟩
    | _ => exact False.elim h
/-- the end by a hook -/
theorem walk_G {l : PySem.W.OpenLaw} {n k : Nat} {q : Program} {loose : List Str} {XP : (Str → Option Value) → Heap → Prop} {YP : World → Heap → Prop} {dr : DefRec} {st : Stmt} {x arg : Str} {d : List AV → T AV} (hx : dr.name = x)
    (hn : l.most = some n) (hn2 : n ≤ sizeLine) (hdf : dr.params.defaults = []) (hr : Room k callerA)
    (F : ∀ (w : World) (mg : Str → Option Value) (fa : Addr) (h : Heap), YP w h → h.Ns mainGlobals mg → mg x = some (.ref fa) → ∃ (K : PySem.W.Frag) (cs : List (Addr × Addr)) (Tb : List (Addr × Str)), K.In h ∧
      (∀ p ∈ cs, h.get? p.2 = some { cls := .none, data := .fields #[] }) ∧ (∀ p ∈ cs, K.lookup p.2 = none) ∧ (∀ p ∈ cs, PySem.W.CodeHd h p.1 p.2) ∧ (∀ p ∈ Tb, p.1 ∈ cs.map (·.2)) ∧
      ∀ base : Heap, K.In base → base.Ns mainGlobals mg → (∀ p ∈ cs, TabB base mg p.1 p.2) → FnG l.prog w K mg base Tb (Cal l.prog w K mg base Tb) x st [arg] k d)
    (hd : ∀ ns : List Int, ns.length ≤ n → (∀ z ∈ ns, Builtin.Int.intBits z ≤ 1048576) → Hold (d [.sh (.list (ns.map PyData.int))]) fun av => av = .sh (.bool true)) :
    PySem.W.WalkO q loose XP YP l.row.toRowW dr [] (fun f vs => PySem.call f vs) := by
  subst hx
  refine Att.attach_callB hn hdf fun w s₀ s₁ mg mb fa o pm cd doc a vs ns G Y ho _ _ hmg hobj hints hlen hbits hg => ?_
  obtain ⟨K, cs, Tb, KX, hT, nT, C, hTb, hF⟩ := F w mg fa _ Y G.T.g hmg
  exact law_callG KX G.T.g G.T.b G.T.builtins G.T.nolimit hg hT nT C G.T.bmain hobj hints (Nat.le_trans hlen hn2) hr hmg hTb hF (hd ns hlen hbits)
end Dn
end
section
set_option Elab.async false
set_option linter.all false
set_option autoImplicit false
set_option maxRecDepth 100000
/-! M1: reckoning with denotations. -/
namespace Dn
open PySem PySem.Spec PyProof.Rows L2 LamX

theorem bind_ret {α β : Type} (a : α) (f : α → T β) : (T.ret a).bind f = f a := Eq.trans rfl rfl
theorem bind_err {α β : Type} (f : α → T β) : (T.err : T α).bind f = .err := Eq.trans rfl rfl
theorem bind_draw {α β : Type} (n : Nat) (k : Nat → T α) (f : α → T β) : (T.draw n k).bind f = .draw n fun d => (k d).bind f := Eq.trans rfl rfl
theorem bind_assoc {α β γ : Type} (f : α → T β) (g : β → T γ) : ∀ m : T α, (m.bind f).bind g = m.bind fun a => (f a).bind g
  | .err => rfl
  | .ret _ => rfl
  | .draw n k => by
    show T.draw n _ = T.draw n _
    congr 1
    funext d
    exact bind_assoc f g (k d)
theorem hold_ret {α : Type} {a : α} {p : α → Prop} : Hold (.ret a) p ↔ p a := Iff.rfl
theorem hold_bind {α β : Type} {m : T α} {f : α → T β} {p : β → Prop} : Hold (m.bind f) p ↔ Hold m fun a => Hold (f a) p := ⟨Hold.bind, Hold.bind'⟩
theorem hold_of {α : Type} {m : T α} {a : α} {p : α → Prop} (h : m = .ret a) (hp : p a) : Hold m p := by
  rw [h]
  exact hp
theorem share_nil (ρ : Env) : share [] ρ = ρ := rfl
theorem slA0 {d : PyData} {l : Env} : slotA (.sh d :: l) 0 = .ret (.sh d) := rfl
theorem slAp {l : Env} : slotA (.pot :: l) 0 = .ret .pot := rfl
theorem slAf {g : List PyData → T PyData} {l : Env} : slotA (.fn g :: l) 0 = .ret (.fn g) := rfl
theorem slAs {a : AV} {l : Env} {n : Nat} : slotA (a :: l) (n + 1) = slotA l n := rfl
theorem slD0 {d : PyData} {l : Env} : slotD (.sh d :: l) 0 = .ret d := rfl
theorem slDo {ds : List PyData} {l : Env} : slotD (.own ds :: l) 0 = .ret (.list ds) := rfl
theorem slDs {a : AV} {l : Env} {n : Nat} : slotD (a :: l) (n + 1) = slotD l n := rfl
theorem itemsL {ds : List PyData} : itemsD (.list ds) = .ret ds := rfl
theorem itemsT {ds : List PyData} : itemsD (.tuple ds) = .ret ds := rfl
/-! ### comprehensions -/
theorem wipe_one (v : Nat) (ρ : Env) : wipeE [v] ρ = ρ.set v .no := rfl
theorem set_set' {α : Type} (l : List α) (v : Nat) (x y : α) : (l.set v x).set v y = l.set v y := List.set_set ..
theorem lcN {α : Type} {v : Nat} {t : Env → T Bool} {f : Env → T AV} {ρ : Env} {e : α → PyData} (b : α → Bool) (y : α → PyData) : ∀ (l : List α), (∀ a ∈ l, t (ρ.set v (.sh (e a))) = .ret (b a)) → (∀ a ∈ l, b a = true → (f (ρ.set v (.sh (e a)))).bind toS = .ret (y a)) →
    lcItems [v] (gN v) t f ρ (l.map e) = .ret ((l.filter b).map y)
  | [], _, _ => rfl
  | a :: l, ht, hf => by
    have ih := lcN b y l (fun c hc => ht c (List.mem_cons_of_mem _ hc)) (fun c hc => hf c (List.mem_cons_of_mem _ hc))
    show ((T.ret ((wipeE [v] ρ).set v (.sh (e a)))).bind fun ρ1 => _) = _
    rw [bind_ret, wipe_one, set_set', ht a List.mem_cons_self, bind_ret]
    cases hb : b a with
    | false =>
      rw [if_neg (by simp), ih, List.filter_cons_of_neg (by simp [hb])]
    | true =>
      rw [if_pos rfl, hf a List.mem_cons_self hb, bind_ret, ih, bind_ret, List.filter_cons_of_pos hb, List.map_cons]
/-- no test -/
theorem lcN1 {α : Type} {v : Nat} {f : Env → T AV} {ρ : Env} {e : α → PyData} (y : α → PyData) (l : List α) (hf : ∀ a ∈ l, (f (ρ.set v (.sh (e a)))).bind toS = .ret (y a)) :
    lcItems [v] (gN v) lcTest0 f ρ (l.map e) = .ret (l.map y) := by
  rw [lcN (fun _ => true) y l (fun _ _ => rfl) (fun a ha _ => hf a ha)]
  congr 2
  exact List.filter_eq_self.mpr fun _ _ => rfl
inductive All2 {α β : Type} (P : α → β → Prop) : List α → List β → Prop
  | nil : All2 P [] []
  | cons {a : α} {b : β} {as : List α} {bs : List β} : P a b → All2 P as bs → All2 P (a :: as) (b :: bs)
theorem lcH1 {α : Type} {v : Nat} {f : Env → T AV} {ρ : Env} {e : α → PyData} (P : α → PyData → Prop) : ∀ (l : List α), (∀ a ∈ l, Hold ((f (ρ.set v (.sh (e a)))).bind toS) (P a)) → Hold (lcItems [v] (gN v) lcTest0 f ρ (l.map e)) (All2 P l)
  | [], _ => .nil
  | a :: l, hf => by
    have ih := lcH1 P l (fun c hc => hf c (List.mem_cons_of_mem _ hc))
    show Hold ((T.ret ((wipeE [v] ρ).set v (.sh (e a)))).bind fun ρ1 => _) _
    rw [bind_ret, wipe_one, set_set']
    show Hold (((f (ρ.set v (.sh (e a)))).bind toS).bind _) _
    refine Hold.bind' ((hf a List.mem_cons_self).mono fun y hy => Hold.bind' (ih.mono fun ys hys => .cons hy hys))
theorem lcH {α : Type} {v : Nat} {t : Env → T Bool} {f : Env → T AV} {ρ : Env} {e : α → PyData} (P : α → PyData → Prop) : ∀ (l : List α), (∀ a ∈ l, Hold (t (ρ.set v (.sh (e a)))) fun _ => True) → (∀ a ∈ l, Hold ((f (ρ.set v (.sh (e a)))).bind toS) (P a)) →
    Hold (lcItems [v] (gN v) t f ρ (l.map e)) fun ys => ∃ l' : List α, l'.Sublist l ∧ All2 P l' ys
  | [], _, _ => ⟨[], List.Sublist.slnil, .nil⟩
  | a :: l, ht, hf => by
    have ih := lcH P l (fun c hc => ht c (List.mem_cons_of_mem _ hc)) (fun c hc => hf c (List.mem_cons_of_mem _ hc))
    show Hold ((T.ret ((wipeE [v] ρ).set v (.sh (e a)))).bind fun ρ1 => _) _
    rw [bind_ret, wipe_one, set_set']
    refine Hold.bind' ((ht a List.mem_cons_self).mono fun b _ => ?_)
    cases b with
    | false =>
      rw [if_neg (by simp)]
      exact ih.mono fun ys ⟨l', h1, h2⟩ => ⟨l', h1.cons _, h2⟩
    | true =>
      rw [if_pos rfl]
      exact Hold.bind' ((hf a List.mem_cons_self).mono fun y hy => Hold.bind' (ih.mono fun ys ⟨l', h1, h2⟩ => ⟨a :: l', h1.cons₂ _, .cons hy h2⟩))
theorem lcD_eq {vs : List Nat} {it : Env → T (List PyData)} {g : PyData → Env → T Env} {t : Env → T Bool} {f : Env → T AV} {ρ : Env} {ds ys : List PyData} (h1 : it ρ = .ret ds) (h2 : vs.all (notOwn ρ) = true) (h3 : lcItems vs g t f ρ ds = .ret ys) : lcD vs it g t f ρ = .ret (.own ys) := by
  unfold lcD
  rw [h1, bind_ret, if_pos h2, h3]
  rfl
theorem lcD_hold {vs : List Nat} {it : Env → T (List PyData)} {g : PyData → Env → T Env} {t : Env → T Bool} {f : Env → T AV} {ρ : Env} {ds : List PyData} {p : AV → Prop} (h1 : it ρ = .ret ds) (h2 : vs.all (notOwn ρ) = true) (h3 : Hold (lcItems vs g t f ρ ds) fun ys => p (.own ys)) : Hold (lcD vs it g t f ρ) p := by
  unfold lcD
  rw [h1, bind_ret, if_pos h2]
  exact Hold.bind' (h3.mono fun _ h => h)
/-! ### loops -/
theorem forN {α β : Type} {v : Nat} {body : Env → T Out} {e : α → PyData} (St : β → AV → Env) (step : β → α → β) (I : β → Prop) (hset : ∀ s x y, (St s x).set v y = St s y) : ∀ (l : List α) (s : β) (x : AV), I s →
    (∀ s, I s → ∀ a ∈ l, I (step s a) ∧ ∃ x', body (St s (.sh (e a))) = .ret (.nx (St (step s a) x'))) → ∃ x', forItems (gN v) body (l.map e) (St s x) = .ret (.nx (St (l.foldl step s) x')) ∧ I (l.foldl step s)
  | [], s, x, hI, _ => ⟨x, rfl, hI⟩
  | a :: l, s, x, hI, hb => by
    obtain ⟨hI2, x1, h1⟩ := hb s hI a List.mem_cons_self
    obtain ⟨x', h2, h3⟩ := forN St step I hset l (step s a) x1 hI2 fun s hs c hc => hb s hs c (List.mem_cons_of_mem _ hc)
    refine ⟨x', ?_, h3⟩
    show ((T.ret ((St s x).set v (.sh (e a)))).bind fun ρ1 => _) = _
    rw [bind_ret, hset, h1, bind_ret]
    exact h2
theorem forH {g : PyData → Env → T Env} {body : Env → T Out} (I : Env → Prop) : ∀ (ds : List PyData) (ρ : Env), I ρ → (∀ ρ, I ρ → ∀ d ∈ ds, Hold (g d ρ) fun ρ1 => Hold (body ρ1) fun o => ∃ ρ', (o = .nx ρ' ∨ o = .ct ρ') ∧ I ρ') →
    Hold (forItems g body ds ρ) fun o => ∃ ρ', o = .nx ρ' ∧ I ρ'
  | [], ρ, hI, _ => ⟨ρ, rfl, hI⟩
  | d :: ds, ρ, hI, hb => by
    refine Hold.bind' ((hb ρ hI d List.mem_cons_self).mono fun ρ1 h => Hold.bind' (h.mono fun o ⟨ρ', ho, hI'⟩ => ?_))
    have ih := forH I ds ρ' hI' fun ρ h d hd => hb ρ h d (List.mem_cons_of_mem _ hd)
    rcases ho with rfl | rfl <;> exact ih
/-! ### data that are compared thing by thing -/
mutual
def plain : PyData → Bool
  | .bool _ => false
  | .dict _ => false
  | .list xs => plainAll xs
  | .tuple xs => plainAll xs
  | .none => true
  | .int _ => true
  | .str _ => true
def plainAll : List PyData → Bool
  | [] => true
  | x :: xs => plain x && plainAll xs
end
mutual
theorem eqv_iff : ∀ x y : PyData, plain x = true → plain y = true → (PyData.eqv x y = true ↔ x = y)
  | .none, y, _, hy => by cases y <;> simp [PyData.eqv, plain] at hy ⊢
  | .bool _, _, h, _ => by simp [plain] at h
  | .dict _, _, h, _ => by simp [plain] at h
  | .int i, y, _, hy => by cases y <;> simp [PyData.eqv, plain] at hy ⊢
  | .str i, y, _, hy => by cases y <;> simp [PyData.eqv, plain] at hy ⊢
  | .list xs, y, hx, hy => by
    cases y with
    | list ys =>
      rw [plain] at hx hy
      rw [PyData.eqv, eqvAll_iff xs ys hx hy]
      exact ⟨fun h => by rw [h], fun h => PyData.list.inj h⟩
    | bool _ => simp [plain] at hy
    | dict _ => simp [plain] at hy
    | _ => simp [PyData.eqv]
  | .tuple xs, y, hx, hy => by
    cases y with
    | tuple ys =>
      rw [plain] at hx hy
      rw [PyData.eqv, eqvAll_iff xs ys hx hy]
      exact ⟨fun h => by rw [h], fun h => PyData.tuple.inj h⟩
    | bool _ => simp [plain] at hy
    | dict _ => simp [plain] at hy
    | _ => simp [PyData.eqv]
theorem eqvAll_iff : ∀ xs ys : List PyData, plainAll xs = true → plainAll ys = true → (PyData.eqvAll xs ys = true ↔ xs = ys)
  | [], ys, _, _ => by cases ys <;> simp [PyData.eqvAll]
  | x :: xs, [], _, _ => by simp [PyData.eqvAll]
  | x :: xs, y :: ys, hx, hy => by
    rw [plainAll, Bool.and_eq_true] at hx hy
    rw [PyData.eqvAll, Bool.and_eq_true, eqv_iff x y hx.1 hy.1, eqvAll_iff xs ys hx.2 hy.2, List.cons.injEq]
end
theorem plainAll_iff : ∀ {xs : List PyData}, plainAll xs = true ↔ ∀ x ∈ xs, plain x = true
  | [] => by simp [plainAll]
  | x :: xs => by
    rw [plainAll, Bool.and_eq_true, plainAll_iff]
    simp
theorem canLayAll_iff : ∀ {xs : List PyData}, PyData.canLayAll0 xs = true ↔ ∀ x ∈ xs, x.canLay0 = true
  | [] => by simp [PyData.canLayAll0]
  | x :: xs => by
    rw [PyData.canLayAll0, Bool.and_eq_true, canLayAll_iff]
    simp
theorem depthAll_le : ∀ {xs : List PyData} {n : Nat}, PyData.depthAll xs ≤ n ↔ ∀ x ∈ xs, x.depth ≤ n
  | [], n => by simp [PyData.depthAll]
  | x :: xs, n => by
    rw [PyData.depthAll, Nat.max_le, depthAll_le]
    simp
/-- data that can be laid, with d levels at most -/
def Ok (n : Nat) (d : PyData) : Prop := plain d = true ∧ d.canLay0 = true ∧ d.depth ≤ n
theorem Ok.int {n : Nat} (i : Int) : Ok n (.int i) := ⟨by simp [plain], by simp [PyData.canLay0], by simp [PyData.depth]⟩
theorem Ok.list {n : Nat} {xs : List PyData} (h : ∀ x ∈ xs, Ok n x) : Ok (n + 1) (.list xs) := by
  refine ⟨by rw [plain, plainAll_iff]; exact fun x hx => (h x hx).1, by rw [PyData.canLay0, canLayAll_iff]; exact fun x hx => (h x hx).2.1, ?_⟩
  have q : PyData.depthAll xs ≤ n := depthAll_le.mpr fun x hx => (h x hx).2.2
  rw [PyData.depth]
  omega
theorem Ok.tuple {n : Nat} {xs : List PyData} (h : ∀ x ∈ xs, Ok n x) : Ok (n + 1) (.tuple xs) := by
  refine ⟨by rw [plain, plainAll_iff]; exact fun x hx => (h x hx).1, by rw [PyData.canLay0, canLayAll_iff]; exact fun x hx => (h x hx).2.1, ?_⟩
  have q : PyData.depthAll xs ≤ n := depthAll_le.mpr fun x hx => (h x hx).2.2
  rw [PyData.depth]
  omega
theorem Ok.mono {n m : Nat} {d : PyData} (h : Ok n d) (hm : n ≤ m) : Ok m d := ⟨h.1, h.2.1, Nat.le_trans h.2.2 hm⟩
theorem Ok.okD {n : Nat} {d : PyData} (h : Ok n d) (hn : n ≤ 64) : Dn.okD d = true := by
  unfold Dn.okD SeqAt.shaped
  rw [h.2.1, Bool.true_and, decide_eq_true_iff]
  exact Nat.le_trans h.2.2 hn
theorem eqv_ok {n m : Nat} {x y : PyData} (hx : Ok n x) (hy : Ok m y) : PyData.eqv x y = true ↔ x = y := eqv_iff x y hx.1 hy.1
/-- x == y, of data that are laid -/
theorem eqA_ok {n m : Nat} {x y : PyData} (hx : Ok n x) (hy : Ok m y) (hn : n ≤ 64) (hm : m ≤ 64) [Decidable (x = y)] : eqA x y = .ret (.sh (.bool (decide (x = y)))) := by
  have gen : eqD x y = .ret (.sh (.bool (decide (x = y)))) := by
    unfold eqD
    rw [hx.okD hn, hy.okD hm, if_pos (show (true && true) = true from rfl)]
    congr 3
    by_cases h : x = y
    · rw [decide_eq_true h, (eqv_ok hx hy).mpr h]
    · rw [decide_eq_false h]
      exact Bool.eq_false_iff.mpr fun z => h ((eqv_ok hx hy).mp z)
  cases x with
  | str a => cases y with
    | str b =>
      show T.ret _ = T.ret _
      congr 3
      exact decide_eq_decide.mpr ⟨fun h => by rw [h], fun h => PyData.str.inj h⟩
    | _ => exact gen
  | _ => exact gen
theorem neA_ok {n m : Nat} {x y : PyData} (hx : Ok n x) (hy : Ok m y) (hn : n ≤ 64) (hm : m ≤ 64) [Decidable (x = y)] : neA x y = .ret (.sh (.bool (!decide (x = y)))) := by
  have gen : neD x y = .ret (.sh (.bool (!decide (x = y)))) := by
    unfold neD
    rw [hx.okD hn, hy.okD hm, if_pos (show (true && true) = true from rfl)]
    congr 4
    by_cases h : x = y
    · rw [decide_eq_true h, (eqv_ok hx hy).mpr h]
    · rw [decide_eq_false h]
      exact Bool.eq_false_iff.mpr fun z => h ((eqv_ok hx hy).mp z)
  cases x with
  | str a => cases y with
    | str b =>
      show T.ret _ = T.ret _
      congr 4
      exact decide_eq_decide.mpr ⟨fun h => by rw [h], fun h => PyData.str.inj h⟩
    | _ => exact gen
  | _ => exact gen
/-- x in a list or a tuple -/
theorem memD_ok {n m : Nat} {f : Bool → Bool} {x y : PyData} {ds : List PyData} (hs : seqOf y = some ds) (hx : Ok n x) (hy : Ok m y) (hn : n ≤ 64) (hm : m ≤ 64) [Decidable (x ∈ ds)] : memD f x y = .ret (.sh (.bool (f (decide (x ∈ ds))))) := by
  have all : ∀ z ∈ ds, plain z = true := by
    cases y with
    | list xs =>
      cases hs
      exact plainAll_iff.mp (by have := hy.1; rwa [plain] at this)
    | tuple xs =>
      cases hs
      exact plainAll_iff.mp (by have := hy.1; rwa [plain] at this)
    | _ => cases hs
  unfold memD
  rw [hs]
  show (if _ then _ else _) = _
  rw [hx.okD hn, hy.okD hm, if_pos (show (true && true) = true from rfl)]
  congr 4
  by_cases h : x ∈ ds
  · rw [decide_eq_true h]
    exact List.any_eq_true.mpr ⟨x, h, (eqv_iff x x hx.1 hx.1).mpr rfl⟩
  · rw [decide_eq_false h]
    refine Bool.eq_false_iff.mpr fun z => ?_
    obtain ⟨w, hw, e⟩ := List.any_eq_true.mp z
    exact h ((eqv_iff w x (all w hw) hx.1).mp e ▸ hw)
end Dn
end
section
set_option Elab.async false
set_option linter.all false
set_option autoImplicit false
set_option maxRecDepth 100000
/-! M2: what the defs about forms do to relations. -/
namespace Mf
open PySem Dn Wk

abbrev iD (n : Nat) : PyData := .int (n : Int)
def encT (l : List Nat) : PyData := .tuple (l.map iD)
def encN (l : List Nat) : PyData := .list (l.map iD)
def rowOf (n : Nat) (R : Nat → Nat → Bool) (i : Nat) : List Nat := (List.range n).filter (R i)
def encF (n : Nat) (R : Nat → Nat → Bool) : PyData := .tuple ((List.range n).map fun i => encT (rowOf n R i))
theorem upFrom0 (n : Nat) : upFrom 0 n = (List.range n).map iD := by
  unfold upFrom
  refine List.map_congr_left fun i _ => ?_
  show PyData.int (0 + (i : Int)) = PyData.int i
  rw [Int.zero_add]
theorem itR_n {ρ : Dn.Env} {f : Dn.Env → T PyData} {n : Nat} (h : f ρ = .ret (.int n)) (hn : n ≤ 100000) : itR f ρ = .ret ((List.range n).map iD) := by
  show (f ρ).bind _ = _
  rw [h, bind_ret]
  show (if _ then _ else _) = _
  rw [if_pos (by omega), Int.toNat_natCast, upFrom0]
theorem iD_inj {a b : Nat} (h : iD a = iD b) : a = b := by
  have := PyData.int.inj h
  omega
theorem mem_iD {a : Nat} {l : List Nat} : iD a ∈ l.map iD ↔ a ∈ l := ⟨fun h => by
  obtain ⟨b, hb, e⟩ := List.mem_map.mp h
  rw [← iD_inj e]
  exact hb, fun h => List.mem_map.mpr ⟨a, h, rfl⟩⟩
theorem mem_row {n : Nat} {R : Nat → Nat → Bool} {i j : Nat} : j ∈ rowOf n R i ↔ j < n ∧ R i j = true := by
  unfold rowOf
  rw [List.mem_filter, List.mem_range]
theorem ok_encT (l : List Nat) : Ok 1 (encT l) := Ok.tuple fun x hx => by
  obtain ⟨a, _, rfl⟩ := List.mem_map.mp hx
  exact Ok.int _
theorem ok_encN (l : List Nat) : Ok 1 (encN l) := Ok.list fun x hx => by
  obtain ⟨a, _, rfl⟩ := List.mem_map.mp hx
  exact Ok.int _
theorem ok_encF (n : Nat) (R : Nat → Nat → Bool) : Ok 2 (encF n R) := Ok.tuple fun x hx => by
  obtain ⟨a, _, rfl⟩ := List.mem_map.mp hx
  exact ok_encT _
/-! ### subscripts -/
theorem atI_nat {ds : List PyData} {i : Nat} (h : i < ds.length) : L2.atI ds (i : Int) = ds[i]? := by
  unfold L2.atI L2.ixN
  rw [if_pos (by omega), if_pos (by omega), Int.toNat_natCast]
  rfl
theorem ix_list {ds : List PyData} {i : Nat} {d : PyData} (h : ds[i]? = some d) : ixD (.list ds) (iD i) = .ret (.sh d) := by
  show (match L2.atI ds (i : Int) with
    | some d => T.ret (AV.sh d)
    | none => .err) = _
  rw [atI_nat (lt_of_get h), h]
theorem ix_tup {ds : List PyData} {i : Nat} {d : PyData} (h : ds[i]? = some d) : ixD (.tuple ds) (iD i) = .ret (.sh d) := by
  show (match L2.atI ds (i : Int) with
    | some d => T.ret (AV.sh d)
    | none => .err) = _
  rw [atI_nat (lt_of_get h), h]
theorem get_iD {l : List Nat} {i : Nat} (h : i < l.length) : (l.map iD)[i]? = some (iD (l.getD i 0)) := by
  rw [List.getElem?_map, List.getElem?_eq_getElem h, List.getD_eq_getElem?_getD, List.getElem?_eq_getElem h]
  rfl
theorem ix_N {l : List Nat} {i : Nat} (h : i < l.length) : ixD (encN l) (iD i) = .ret (.sh (iD (l.getD i 0))) := ix_list (get_iD h)
theorem ix_F {n : Nat} {R : Nat → Nat → Bool} {i : Nat} (h : i < n) : ixD (encF n R) (iD i) = .ret (.sh (encT (rowOf n R i))) := ix_tup (by
  rw [List.getElem?_map, List.getElem?_range h]
  rfl)
theorem mem_T {f : Bool → Bool} {a : Nat} {l : List Nat} : memD f (iD a) (encT l) = .ret (.sh (.bool (f (decide (a ∈ l))))) := by
  have d : Decidable (iD a ∈ l.map iD) := decidable_of_iff _ (mem_iD (a := a) (l := l)).symm
  rw [memD_ok (ds := l.map iD) rfl (Ok.int (n := 0) _) (ok_encT l) (by decide) (by decide)]
  congr 4
  exact decide_eq_decide.mpr mem_iD
theorem mem_N {f : Bool → Bool} {a : Nat} {l : List Nat} : memD f (iD a) (encN l) = .ret (.sh (.bool (f (decide (a ∈ l))))) := by
  have d : Decidable (iD a ∈ l.map iD) := decidable_of_iff _ (mem_iD (a := a) (l := l)).symm
  rw [memD_ok (ds := l.map iD) rfl (Ok.int (n := 0) _) (ok_encN l) (by decide) (by decide)]
  congr 4
  exact decide_eq_decide.mpr mem_iD
theorem mem_F {f : Bool → Bool} {n : Nat} {R : Nat → Nat → Bool} {i j : Nat} (hj : j < n) : memD f (iD j) (encT (rowOf n R i)) = .ret (.sh (.bool (f (R i j)))) := by
  rw [mem_T]
  congr 4
  cases h : R i j with
  | true => exact decide_eq_true (mem_row.mpr ⟨hj, h⟩)
  | false => exact decide_eq_false fun z => by rw [(mem_row.mp z).2] at h; cases h
/-! ### by_rule -/
theorem e_by_rule {n : Nat} {g : List PyData → T PyData} {R : Nat → Nat → Bool} (hn : n ≤ 100000) (hg : ∀ i, i < n → ∀ j, j < n → g [iD i, iD j] = .ret (.bool (R i j))) : d_by_rule [.sh (iD n), .fn g] = .ret (.sh (encF n R)) := by
  have inner : ∀ i, i < n → lcD [2] (itR (vD 0)) (gN 2) (tB (callV 1 (aC (vA 3) (aC (vA 2) a0)))) (vA 2) [.sh (iD n), .fn g, .no, .sh (iD i)] = .ret (.own ((rowOf n R i).map iD)) := fun i hi =>
    lcD_eq (itR_n rfl hn) rfl (lcN (e := iD) (R i) iD _ (fun j hj => by
      have hj := List.mem_range.mp hj
      show ((g [iD i, iD j]).bind _).bind toB = _
      rw [hg i hi j hj]
      rfl) fun j _ _ => rfl)
  have outer : lcD [3] (itR (vD 0)) (gN 3) lcTest0 (cal tupleD (bC (oA (lcD [2] (itR (vD 0)) (gN 2) (tB (callV 1 (aC (vA 3) (aC (vA 2) a0)))) (vA 2))) b0)) [.sh (iD n), .fn g, .no, .no] = .ret (.own ((List.range n).map fun i => encT (rowOf n R i))) :=
    lcD_eq (itR_n rfl hn) rfl (lcN1 (e := iD) (fun i => encT (rowOf n R i)) _ fun i hi => by
      have hi := List.mem_range.mp hi
      have q := inner i hi
      show ((((lcD [2] (itR (vD 0)) (gN 2) (tB (callV 1 (aC (vA 3) (aC (vA 2) a0)))) (vA 2) [.sh (iD n), .fn g, .no, .sh (iD i)]).bind toD).bind fun a => T.ret [a]).bind tupleD).bind toS = _
      rw [q]
      rfl)
  rw [q_by_rule]
  unfold runD b_by_rule
  show (((((lcD [3] (itR (vD 0)) (gN 3) lcTest0 (cal tupleD (bC (oA (lcD [2] (itR (vD 0)) (gN 2) (tB (callV 1 (aC (vA 3) (aC (vA 2) a0)))) (vA 2))) b0)) [.sh (iD n), .fn g, .no, .no]).bind toD).bind fun a => T.ret [a]).bind tupleD).bind fun av => T.ret (Out.rt av)).bind _ = _
  rw [outer]
  rfl
/-! ### renaming -/
def act (p : List Nat) (R : Nat → Nat → Bool) : Nat → Nat → Bool := fun i j => R (p.getD i 0) (p.getD j 0)
def Names (n : Nat) (p : List Nat) : Prop := p.length = n ∧ ∀ a ∈ p, a < n
theorem Names.lt {n : Nat} {p : List Nat} (h : Names n p) {i : Nat} (hi : i < n) : p.getD i 0 < n := by
  have hl : i < p.length := by rw [h.1]; exact hi
  rw [List.getD_eq_getElem?_getD, List.getElem?_eq_getElem hl]
  exact h.2 _ (List.getElem_mem hl)
theorem len_F {n : Nat} {R : Nat → Nat → Bool} : lenD [encF n R] = .ret (.sh (iD n)) := by
  show T.ret (AV.sh (.int _)) = _
  rw [List.length_map, List.length_range]
theorem e_renamed_of {n : Nat} {R : Nat → Nat → Bool} {p : List Nat} (hn : n ≤ 100000) (hp : Names n p) : d_renamed_of [.sh (encF n R), .sh (encN p)] = .ret (.sh (encF n (act p R))) := by
  have hg : ∀ i, i < n → ∀ j, j < n → lamG 2 [1, 0] 4 l_renamed_of_0 [.sh (encF n R), .sh (encN p)] [iD i, iD j] = .ret (.bool (act p R i j)) := fun i hi j hj => by
    show (l_renamed_of_0 [.sh (iD i), .sh (iD j), .sh (encN p), .sh (encF n R)]).bind toS = _
    unfold l_renamed_of_0
    show ((((ixD (encN p) (iD j)).bind toD).bind fun x => ((((ixD (encN p) (iD i)).bind toD).bind fun y => ixD (encF n R) y).bind toD).bind fun y => memD id x y)).bind toS = _
    rw [ix_N (by rw [hp.1]; exact hj), ix_N (by rw [hp.1]; exact hi)]
    show (((ixD (encF n R) (iD (p.getD i 0))).bind toD).bind fun y => memD id (iD (p.getD j 0)) y).bind toS = _
    rw [ix_F (hp.lt hi)]
    show (memD id (iD (p.getD j 0)) (encT (rowOf n R (p.getD i 0)))).bind toS = _
    rw [mem_F (hp.lt hj)]
    rfl
  rw [q_renamed_of]
  unfold runD b_renamed_of
  show ((((lenD [encF n R]).bind fun a => (toS a).bind fun y => (calling 2 d_by_rule [.sh y, .fn (lamG 2 [1, 0] 4 l_renamed_of_0 [.sh (encF n R), .sh (encN p)])]).bind dataA).bind fun av => T.ret (Out.rt av))).bind _ = _
  rw [len_F]
  show (((d_by_rule [.sh (iD n), .fn (lamG 2 [1, 0] 4 l_renamed_of_0 [.sh (encF n R), .sh (encN p)])]).bind dataA).bind fun av => T.ret (Out.rt av)).bind _ = _
  rw [e_by_rule hn hg]
  rfl
end Mf
end
section
set_option Elab.async false
set_option linter.all false
set_option autoImplicit false
set_option maxRecDepth 100000
/-! M3: judges and names. -/
namespace Mf
open PySem Dn Wk

theorem lcG {α : Type} {vs : List Nat} {g : PyData → Dn.Env → T Dn.Env} {t : Dn.Env → T Bool} {f : Dn.Env → T AV} {ρ : Dn.Env} {e : α → PyData} (ρ' : α → Dn.Env) (b : α → Bool) (y : α → PyData) : ∀ (l : List α), (∀ a ∈ l, g (e a) (wipeE vs ρ) = .ret (ρ' a)) → (∀ a ∈ l, t (ρ' a) = .ret (b a)) → (∀ a ∈ l, b a = true → (f (ρ' a)).bind toS = .ret (y a)) →
    lcItems vs g t f ρ (l.map e) = .ret ((l.filter b).map y)
  | [], _, _, _ => rfl
  | a :: l, hg, ht, hf => by
    have ih := lcG ρ' b y l (fun c hc => hg c (List.mem_cons_of_mem _ hc)) (fun c hc => ht c (List.mem_cons_of_mem _ hc)) (fun c hc => hf c (List.mem_cons_of_mem _ hc))
    show ((g (e a) (wipeE vs ρ)).bind fun ρ1 => _) = _
    rw [hg a List.mem_cons_self, bind_ret, ht a List.mem_cons_self, bind_ret]
    cases hb : b a with
    | false => rw [if_neg (by simp), ih, List.filter_cons_of_neg (by simp [hb])]
    | true => rw [if_pos rfl, hf a List.mem_cons_self hb, bind_ret, ih, bind_ret, List.filter_cons_of_pos hb, List.map_cons]
abbrev yes : T AV := .ret (.sh (.bool true))
theorem all_true {α : Type} (l : List α) : allD [.list (l.map fun _ => PyData.bool true)] = yes := by
  have e : boolsOf (l.map fun _ => PyData.bool true) = some (l.map fun _ => true) := by
    induction l with
    | nil => rfl
    | cons a l ih =>
      show (match boolsOf (l.map fun _ => PyData.bool true) with
        | some bs => some (true :: bs)
        | none => none) = _
      rw [ih] <;> rfl
  show optT (boolsOf _) _ = _
  rw [e]
  show T.ret (AV.sh (.bool _)) = _
  congr 3
  simp
theorem le_II {i j : Int} : leD (.int i) (.int j) = .ret (.sh (.bool (decide (i ≤ j)))) := rfl
theorem e_is_integer (a : Int) : d_is_integer [.sh (.int a)] = yes := by
  rw [q_is_integer]
  rfl
theorem e_is_within {a lo hi : Int} (h1 : lo ≤ a) (h2 : a ≤ hi) : d_is_within [.sh (.int a), .sh (.int lo), .sh (.int hi)] = yes := by
  rw [q_is_within]
  unfold runD b_is_within
  show ((((d_is_integer [.sh (.int a)]).bind toB).bind fun x => if x = true then _ else _).bind fun av => T.ret (Out.rt av)).bind _ = _
  rw [e_is_integer]
  show (((if decide (lo ≤ a) = true then leD (.int a) (.int hi) else _).bind fun av => T.ret (Out.rt av)).bind _ : T AV) = _
  rw [if_pos (decide_eq_true h1), le_II, decide_eq_true h2]
  rfl
theorem cut1 (ds : List PyData) : Dn.cutD ds (some 1) none = ds.drop 1 := by
  cases ds with
  | nil => rfl
  | cons d r =>
    unfold Dn.cutD
    have e1 : HT.sIx (d :: r).length 0 (some 1) = 1 := by
      unfold HT.sIx
      simp
    have e2 : HT.sIx (d :: r).length (d :: r).length none = (d :: r).length := rfl
    rw [e1, e2]
    exact List.take_of_length_le (by simp)
theorem e_are_rising {l : List Nat} (h : l.Pairwise (· < ·)) : d_are_rising [.sh (encT l)] = yes := by
  have hz : zipL (l.map iD) ((l.map iD).drop 1) = (l.zip (l.drop 1)).map fun p => PyData.tuple [iD p.1, iD p.2] := by
    unfold zipL
    rw [← List.map_drop, List.zipWith_map_left, List.zipWith_map_right, List.zip, List.map_zipWith]
  have hlt : ∀ p ∈ l.zip (l.drop 1), p.1 < p.2 := fun p hp => by
    obtain ⟨i, hi⟩ := List.mem_iff_getElem?.mp hp
    rw [List.getElem?_zip_eq_some] at hi
    obtain ⟨h1, h2⟩ := hi
    rw [List.getElem?_drop] at h2
    obtain ⟨a1, b1⟩ := List.getElem?_eq_some_iff.mp h1
    obtain ⟨a2, b2⟩ := List.getElem?_eq_some_iff.mp h2
    rw [← b1, ← b2]
    exact List.pairwise_iff_getElem.mp h i (1 + i) a1 a2 (by omega)
  have it : itZ (aC (vA 0) (aC (slA (vD 0) (oI (oA (kA (.int 1)))) o0) a0)) [.sh (encT l), .no, .no] = .ret ((l.zip (l.drop 1)).map fun p => PyData.tuple [iD p.1, iD p.2]) := by
    show (((slD (encT l) (some 1) none).bind fun a => (T.ret (frz a :: [])).bind fun as => T.ret (AV.sh (encT l) :: as)).bind fun as => (allS as).bind zipD) = _
    show zipD [encT l, .tuple (Dn.cutD (l.map iD) (some 1) none)] = _
    rw [cut1]
    show T.ret (zipL _ _) = _
    rw [hz]
  rw [q_are_rising]
  unfold runD b_are_rising
  show ((((((lcD [1, 2] _ _ lcTest0 (bin ltD (vD 1) (vD 2)) [.sh (encT l), .no, .no]).bind toD).bind fun a => T.ret [a]).bind allD).bind fun av => T.ret (Out.rt av)).bind _ : T AV) = _
  rw [lcD_eq it rfl (lcG (b := fun _ => true) (fun p => [.sh (encT l), .sh (iD p.1), .sh (iD p.2)]) (fun _ => PyData.bool true) _ (fun p _ => rfl) (fun _ _ => rfl) fun p hp _ => by
    show T.ret (PyData.bool (decide ((p.1 : Int) < (p.2 : Int)))) = _
    rw [decide_eq_true (by have := hlt p hp; omega)])]
  show (((allD [.list _]).bind fun av => T.ret (Out.rt av)).bind _ : T AV) = _
  rw [all_true]
  rfl
theorem e_is_lot_of {l : List Nat} {n : Nat} (h : l.Pairwise (· < ·)) (hl : ∀ a ∈ l, a < n) : d_is_lot_of [.sh (encT l), .sh (iD n)] = yes := by
  rw [q_is_lot_of]
  unfold runD b_is_lot_of
  show (((((((lcD [2] (itS (vA 0)) (gN 2) lcTest0 (cal (calling 3 d_is_within) (aC (vA 2) (aC (kA (.int 0)) (aC (bin subD (vD 1) (oA (kA (.int 1)))) a0)))) [.sh (encT l), .sh (iD n), .no]).bind toD).bind fun a => T.ret [a]).bind allD).bind toB).bind fun x => if x = true then _ else _).bind fun av => T.ret (Out.rt av)).bind _ = _
  rw [lcD_eq (ds := l.map iD) rfl rfl (lcN1 (e := iD) (fun _ => PyData.bool true) l fun a ha => by
    show (d_is_within [.sh (iD a), .sh (.int 0), .sh (.int ((n : Int) - 1))]).bind toS = _
    rw [e_is_within (by omega) (by have := hl a ha; omega)]
    rfl)]
  show (((((allD [.list _]).bind toB).bind fun x => if x = true then _ else _).bind fun av => T.ret (Out.rt av)).bind _ : T AV) = _
  rw [all_true]
  show (((d_are_rising [.sh (encT l)]).bind fun av => T.ret (Out.rt av)).bind _ : T AV) = _
  rw [e_are_rising h]
  rfl
theorem row_up (n : Nat) (R : Nat → Nat → Bool) (i : Nat) : (rowOf n R i).Pairwise (· < ·) := List.Pairwise.filter _ List.pairwise_lt_range
theorem eq_len {a b : Nat} : eqA (iD a) (iD b) = .ret (.sh (.bool (decide (a = b)))) := by
  have d : Decidable (iD a = iD b) := decidable_of_iff (a = b) ⟨fun h => by rw [h], iD_inj⟩
  rw [eqA_ok (Ok.int (n := 0) _) (Ok.int (n := 0) _) (by decide) (by decide)]
  congr 3
  exact decide_eq_decide.mpr ⟨iD_inj, fun h => by rw [h]⟩
theorem e_is_relation_of {n : Nat} {R : Nat → Nat → Bool} : d_is_relation_of [.sh (iD n), .sh (encF n R)] = yes := by
  rw [q_is_relation_of]
  unfold runD b_is_relation_of
  show ((((((lenD [encF n R]).bind toD).bind fun x => eqA x (iD n)).bind toB).bind fun x => if x = true then _ else _).bind fun av => T.ret (Out.rt av)).bind _ = _
  rw [len_F]
  show ((((eqA (iD n) (iD n)).bind toB).bind fun x => if x = true then _ else _).bind fun av => T.ret (Out.rt av)).bind _ = _
  rw [eq_len, decide_eq_true rfl]
  show ((((((lcD [2] (itS (vA 1)) (gN 2) lcTest0 (cal (calling 2 d_is_lot_of) (aC (vA 2) (aC (vA 0) a0))) [.sh (iD n), .sh (encF n R), .no]).bind toD).bind fun a => T.ret [a]).bind allD).bind fun av => T.ret (Out.rt av)).bind _ : T AV) = _
  rw [lcD_eq (ds := (List.range n).map fun i => encT (rowOf n R i)) rfl rfl (lcN1 (e := fun i => encT (rowOf n R i)) (fun _ => PyData.bool true) _ fun i _ => by
    show (d_is_lot_of [.sh (encT (rowOf n R i)), .sh (iD n)]).bind toS = _
    rw [e_is_lot_of (row_up n R i) fun a ha => (mem_row.mp ha).1]
    rfl)]
  show (((allD [.list _]).bind fun av => T.ret (Out.rt av)).bind _ : T AV) = _
  rw [all_true]
  rfl
theorem e_is_relation_value {n : Nat} {R : Nat → Nat → Bool} (h1 : 1 ≤ n) (h2 : n ≤ 6) : d_is_relation_value [.sh (encF n R)] = yes := by
  rw [q_is_relation_value]
  unfold runD b_is_relation_value
  show ((((((lenD [encF n R]).bind toD).bind fun y => ((leD (.int 1) y).bind toB).bind fun k => if k = true then leD y (.int 6) else _).bind toB).bind fun x => if x = true then ((lenD [encF n R]).bind fun a => T.ret [frz a, .sh (encF n R)]).bind (calling 2 d_is_relation_of) else _).bind fun av => T.ret (Out.rt av)).bind _ = _
  rw [len_F]
  show (((((if decide ((1 : Int) ≤ (n : Int)) = true then leD (iD n) (.int 6) else _).bind toB).bind fun x => if x = true then d_is_relation_of [.sh (iD n), .sh (encF n R)] else _).bind fun av => T.ret (Out.rt av)).bind _ : T AV) = _
  rw [if_pos (decide_eq_true (by omega)), le_II, decide_eq_true (by omega), e_is_relation_of]
  rfl
theorem e_want_relation {n : Nat} {R : Nat → Nat → Bool} (h1 : 1 ≤ n) (h2 : n ≤ 6) : d_want_relation [.sh (encF n R)] = .ret (.sh .none) := by
  rw [q_want_relation]
  unfold runD b_want_relation
  show ((((d_is_relation_value [.sh (encF n R)]).bind toB).bind fun b => T.ret (!b)).bind fun b => if b = true then _ else _).bind _ = _
  rw [e_is_relation_value h1 h2]
  rfl
theorem e_want_as_many {n : Nat} {R S : Nat → Nat → Bool} : d_want_as_many [.sh (encF n R), .sh (encF n S)] = .ret (.sh .none) := by
  rw [q_want_as_many]
  unfold runD b_want_as_many
  show (((((lenD [encF n R]).bind toD).bind fun x => ((lenD [encF n S]).bind toD).bind fun y => neA x y).bind toB).bind fun b => if b = true then _ else _).bind _ = _
  rw [len_F, len_F]
  show ((((neA (iD n) (iD n)).bind toB).bind fun b => if b = true then _ else _).bind _ : T AV) = _
  have d : Decidable (iD n = iD n) := .isTrue rfl
  rw [neA_ok (Ok.int (n := 0) _) (Ok.int (n := 0) _) (by decide) (by decide), decide_eq_true rfl]
  rfl
/-! ### steps -/
section
variable {f g h : Dn.Env → T Out} {c : Dn.Env → T Bool} {e : Dn.Env → T AV} {ρ ρ' : Dn.Env} {av : AV}
theorem seq_nx (h : f ρ = .ret (.nx ρ')) : seqD f g ρ = g ρ' := by
  unfold seqD
  rw [h]
  rfl
theorem seq_rt (h : f ρ = .ret (.rt av)) : seqD f g ρ = .ret (.rt av) := by
  unfold seqD
  rw [h]
  rfl
theorem ex_ok (h : e ρ = .ret av) : sEx e ρ = .ret (.nx ρ) := by
  show (e ρ).bind _ = _
  rw [h]
  rfl
theorem ret_ok (h : e ρ = .ret av) : sRet e ρ = .ret (.rt av) := by
  show (e ρ).bind _ = _
  rw [h]
  rfl
theorem if_t (h : c ρ = .ret true) : ifD c f g ρ = f ρ := by
  unfold ifD
  rw [h]
  rfl
theorem if_f (h : c ρ = .ret false) : ifD c f g ρ = g ρ := by
  unfold ifD
  rw [h]
  rfl
theorem set_ok {i : Nat} (h : e ρ = .ret av) (hn : av ≠ .no) : setD i e ρ = .ret (.nx (ρ.set i av)) := by
  unfold setD
  rw [h, bind_ret]
  cases av with
  | no => exact absurd rfl hn
  | _ => rfl
theorem fz_ok {av' : AV} (h : e ρ = .ret av) (hv : frz av = av') : fzA e ρ = .ret av' := by
  show (e ρ).bind _ = _
  rw [h, ← hv]
  rfl
theorem cal_ok {α β : Type} {k : α → T β} {m : Dn.Env → T α} {a : α} (h : m ρ = .ret a) : cal k m ρ = k a := by
  show (m ρ).bind _ = _
  rw [h]
  rfl
theorem oA_sh {d : PyData} (h : e ρ = .ret (.sh d)) : oA e ρ = .ret d := by
  show (e ρ).bind _ = _
  rw [h]
  rfl
theorem oA_own {ds : List PyData} (h : e ρ = .ret (.own ds)) : oA e ρ = .ret (.list ds) := by
  show (e ρ).bind _ = _
  rw [h]
  rfl
theorem bin_ok {k : PyData → PyData → T AV} {a b : Dn.Env → T PyData} {x y : PyData} (h1 : a ρ = .ret x) (h2 : b ρ = .ret y) : bin k a b ρ = k x y := by
  show (a ρ).bind _ = _
  rw [h1, bind_ret, h2]
  rfl
theorem tB_ok {b : Bool} (h : e ρ = .ret (.sh (.bool b))) : tB e ρ = .ret b := by
  show (e ρ).bind _ = _
  rw [h]
  rfl
theorem tNot_ok {b : Bool} (h : c ρ = .ret b) : tNot c ρ = .ret (!b) := by
  show (c ρ).bind _ = _
  rw [h]
  rfl
theorem tOr_t {c' : Dn.Env → T Bool} (h : c ρ = .ret true) : tOr c c' ρ = .ret true := by
  show (c ρ).bind _ = _
  rw [h]
  rfl
theorem tOr_f {c' : Dn.Env → T Bool} (h : c ρ = .ret false) : tOr c c' ρ = c' ρ := by
  show (c ρ).bind _ = _
  rw [h]
  rfl
theorem tAnd_t {c' : Dn.Env → T Bool} (h : c ρ = .ret true) : tAnd c c' ρ = c' ρ := by
  show (c ρ).bind _ = _
  rw [h]
  rfl
theorem tAnd_f {c' : Dn.Env → T Bool} (h : c ρ = .ret false) : tAnd c c' ρ = .ret false := by
  show (c ρ).bind _ = _
  rw [h]
  rfl
theorem andA_t {e' : Dn.Env → T AV} (h : e ρ = .ret (.sh (.bool true))) : andA e e' ρ = e' ρ := by
  show ((e ρ).bind _).bind _ = _
  rw [h]
  rfl
theorem andA_f {e' : Dn.Env → T AV} (h : e ρ = .ret (.sh (.bool false))) : andA e e' ρ = .ret (.sh (.bool false)) := by
  show ((e ρ).bind _).bind _ = _
  rw [h]
  rfl
theorem ifA_t {e e' : Dn.Env → T AV} (h : c ρ = .ret true) : ifA c e e' ρ = e ρ := by
  show (c ρ).bind _ = _
  rw [h]
  rfl
theorem ifA_f {e e' : Dn.Env → T AV} (h : c ρ = .ret false) : ifA c e e' ρ = e' ρ := by
  show (c ρ).bind _ = _
  rw [h]
  rfl
theorem aC_ok {m : Dn.Env → T (List AV)} {as : List AV} (h1 : e ρ = .ret av) (h2 : m ρ = .ret as) : aC e m ρ = .ret (frz av :: as) := by
  show (e ρ).bind _ = _
  rw [h1, bind_ret, h2]
  rfl
theorem bC_ok {a : Dn.Env → T PyData} {m : Dn.Env → T (List PyData)} {x : PyData} {xs : List PyData} (h1 : a ρ = .ret x) (h2 : m ρ = .ret xs) : bC a m ρ = .ret (x :: xs) := by
  show (a ρ).bind _ = _
  rw [h1, bind_ret, h2]
  rfl
theorem run_rt {n N : Nat} {as : List AV} (h : f (as ++ List.replicate (N - n) .no) = .ret (.rt av)) : runD n N f as = .ret av := by
  unfold runD
  rw [h]
  rfl
theorem run_nx {n N : Nat} {as : List AV} (h : f (as ++ List.replicate (N - n) .no) = .ret (.nx ρ')) : runD n N f as = .ret (.sh .none) := by
  unfold runD
  rw [h]
  rfl
end
theorem e_want_two {n : Nat} {R S : Nat → Nat → Bool} (h1 : 1 ≤ n) (h2 : n ≤ 6) : d_want_two [.sh (encF n R), .sh (encF n S)] = .ret (.sh .none) := by
  rw [q_want_two]
  refine run_nx (ρ' := [.sh (encF n R), .sh (encF n S)]) ?_
  unfold b_want_two
  refine (seq_nx (ρ' := [.sh (encF n R), .sh (encF n S)]) (ex_ok (av := .sh .none) ?_)).trans ((seq_nx (ρ' := [.sh (encF n R), .sh (encF n S)]) (ex_ok (av := .sh .none) ?_)).trans (ex_ok (av := .sh .none) ?_))
  · exact e_want_relation h1 h2
  · exact e_want_relation h1 h2
  · exact e_want_as_many
theorem sub1 (n : Nat) : subD (iD n) (.int 1) = .ret (.sh (.int ((n : Int) - 1))) := rfl
theorem e_want_thing {n a : Nat} {R : Nat → Nat → Bool} (ha : a < n) : d_want_thing [.sh (encF n R), .sh (iD a)] = .ret (.sh .none) := by
  simp only [q_want_thing, b_want_thing, runD, seqD, ifD, setD, asgD, forD, parD, par3D, setV, extD, appD, ownAt, vD, vA, oA, kA, fzA, bin, tB, tNot, tAnd, tOr, nA, andA, orA, ifA, chA, a0, aC, b0, bC, cal, calK, isA, is2A, slA, o0, oI, ixL, itS, itZ, itE, gN, g0, lamA, xO, sNil, sRet, sEx, sErr, sBk, sCt, sShare, bind_ret, bind_err, slA0, slAp, slAf, slAs, slD0, slDo, slDs, calling, toB, toD, toS, toI, frz, dataA, allS, mkTup, mkLst, itemsL, itemsT, share, share1, tupG, consG, List.append_nil, List.replicate, List.getElem?_cons_zero, List.getElem?_cons_succ, List.cons_append, List.nil_append, Nat.sub_self, List.length_cons, List.length_nil, List.set_cons_zero, List.set_cons_succ, List.foldl_cons, List.foldl_nil, if_true, if_false, ite_true, ite_false, reduceCtorEq, Nat.reduceAdd, Nat.reduceSub, Nat.reduceLeDiff, Bool.not_true, Bool.not_false, Bool.false_eq_true, pick, List.filterMap_cons, List.filterMap_nil, len_F, sub1, e_is_within (show (0 : Int) ≤ (a : Int) by omega) (show (a : Int) ≤ (n : Int) - 1 by omega)]
end Mf
end
section
set_option Elab.async false
set_option linter.all false
set_option autoImplicit false
set_option maxRecDepth 100000
/-! M4: names. -/
namespace Mf
open PySem Dn Wk

abbrev no : T AV := .ret (.sh (.bool false))
theorem ne_len {a b : Nat} : neA (iD a) (iD b) = .ret (.sh (.bool (!decide (a = b)))) := by
  have d : Decidable (iD a = iD b) := decidable_of_iff (a = b) ⟨fun h => by rw [h], iD_inj⟩
  rw [neA_ok (Ok.int (n := 0) _) (Ok.int (n := 0) _) (by decide) (by decide)]
  congr 4
  exact decide_eq_decide.mpr ⟨iD_inj, fun h => by rw [h]⟩
/-- a sequence of names, a list or a tuple -/
def IsSeq (d : PyData) (p : List Nat) : Prop := d = encN p ∨ d = encT p
theorem IsSeq.len {d : PyData} {p : List Nat} (h : IsSeq d p) : lenD [d] = .ret (.sh (iD p.length)) := by
  rcases h with rfl | rfl
  · show T.ret (AV.sh (.int _)) = _
    rw [List.length_map]
  · show T.ret (AV.sh (.int _)) = _
    rw [List.length_map]
theorem IsSeq.items {d : PyData} {p : List Nat} (h : IsSeq d p) : itemsD d = .ret (p.map iD) := by
  rcases h with rfl | rfl <;> rfl
theorem IsSeq.list {d : PyData} {p : List Nat} (h : IsSeq d p) : listD [d] = .ret (.own (p.map iD)) := by
  rcases h with rfl | rfl <;> rfl
theorem IsSeq.ty {d : PyData} {p : List Nat} (h : IsSeq d p) : (isTy "list" d || isTy "tuple" d) = true := by
  rcases h with rfl | rfl
  · show (isTy "list" (.list _) || isTy "tuple" (.list _)) = true
    simp [isTy, tyName]
  · show (isTy "list" (.tuple _) || isTy "tuple" (.tuple _)) = true
    simp [isTy, tyName]
theorem e_is_list {d : PyData} {p : List Nat} (h : IsSeq d p) : d_is_list [.sh d] = yes := by
  simp only [q_is_list, b_is_list, runD, seqD, ifD, setD, asgD, forD, parD, par3D, setV, extD, appD, ownAt, vD, vA, oA, kA, fzA, bin, tB, tNot, tAnd, tOr, nA, andA, orA, ifA, chA, a0, aC, b0, bC, cal, calK, isA, is2A, slA, o0, oI, ixL, itS, itZ, itE, gN, g0, lamA, xO, sNil, sRet, sEx, sErr, sBk, sCt, sShare, bind_ret, bind_err, slA0, slAp, slAf, slAs, slD0, slDo, slDs, calling, toB, toD, toS, toI, frz, dataA, allS, mkTup, mkLst, itemsL, itemsT, share, share1, tupG, consG, List.append_nil, List.replicate, List.getElem?_cons_zero, List.getElem?_cons_succ, List.cons_append, List.nil_append, Nat.sub_self, List.length_cons, List.length_nil, List.set_cons_zero, List.set_cons_succ, List.foldl_cons, List.foldl_nil, if_true, if_false, ite_true, ite_false, reduceCtorEq, Nat.reduceAdd, Nat.reduceSub, Nat.reduceLeDiff, Bool.not_true, Bool.not_false, Bool.false_eq_true, pick, List.filterMap_cons, List.filterMap_nil, h.ty]
/-- the names of a relation of n things: each once -/
structure Perm (n : Nat) (p : List Nat) : Prop where
  len : p.length = n
  lt : ∀ a ∈ p, a < n
  nd : p.Nodup
theorem Perm.names {n : Nat} {p : List Nat} (h : Perm n p) : Names n p := ⟨h.len, h.lt⟩
theorem perm_of_sub : ∀ (p q : List Nat), p.Nodup → (∀ a ∈ p, a ∈ q) → q.length ≤ p.length → p.Perm q
  | [], q, _, _, h => by
    have : q = [] := List.length_eq_zero_iff.mp (by simpa using h)
    rw [this]
  | a :: p, q, hn, hs, hl => by
    rw [List.nodup_cons] at hn
    have ha := hs a List.mem_cons_self
    have hq := List.perm_cons_erase ha
    have hlen := List.length_erase_of_mem ha
    rw [List.length_cons] at hl
    have ih := perm_of_sub p (q.erase a) hn.2 (fun b hb => (List.mem_erase_of_ne (by intro e; subst e; exact hn.1 hb)).mpr (hs b (List.mem_cons_of_mem _ hb))) (by omega)
    exact (ih.cons a).trans hq.symm
theorem Perm.perm {n : Nat} {p : List Nat} (h : Perm n p) : p.Perm (List.range n) := by
  refine perm_of_sub p _ h.nd (fun a ha => List.mem_range.mpr (h.lt a ha)) ?_
  rw [List.length_range, h.len]
  exact Nat.le_refl n
theorem Perm.of {n : Nat} {p : List Nat} (h : p.Perm (List.range n)) : Perm n p := ⟨by rw [h.length_eq, List.length_range], fun a ha => List.mem_range.mp (h.mem_iff.mp ha), h.nodup_iff.mpr List.nodup_range⟩
theorem ints_iD (l : List Nat) : intsOf (l.map iD) = some (l.map fun n : Nat => (n : Int)) := by
  induction l with
  | nil => rfl
  | cons a l ih =>
    show (match intsOf (l.map iD) with
      | some bs => some ((a : Int) :: bs)
      | none => none) = _
    rw [ih] <;> rfl
theorem nub_of {l : List Int} (h : l.Nodup) : (nub l).length = l.length := List.Perm.length_eq ((List.perm_ext_iff_of_nodup (nub_nodup l) h).mpr fun k => mem_nub)
theorem nodup_int {l : List Nat} (h : l.Nodup) : (l.map fun n : Nat => (n : Int)).Nodup := List.Pairwise.map (R := fun a b => a ≠ b) _ (fun a b hab e => hab (by omega)) h
theorem lenSet_perm {n : Nat} {p : List Nat} (h : Perm n p) (hn : n ≤ 1000) : lenSetD (.list (p.map iD)) = .ret (.sh (iD n)) := by
  show optT (intsOf (p.map iD)) _ = _
  rw [ints_iD]
  show (if _ then _ else _) = _
  rw [if_pos (by rw [List.length_map, h.len]; exact hn), nub_of (nodup_int h.nd), List.length_map, h.len]
theorem e_are_names_value {n : Nat} {d : PyData} {p : List Nat} (h : Perm n p) (hs : IsSeq d p) (hn : n ≤ 1000) : d_are_names_value [.sh (iD n), .sh d] = yes := by
  have hl : lcD [2] (itS (vA 1)) (gN 2) lcTest0 (cal (calling 3 d_is_within) (aC (vA 2) (aC (kA (.int 0)) (aC (bin subD (vD 0) (oA (kA (.int 1)))) a0)))) [.sh (iD n), .sh d, .no] = .ret (.own (p.map fun _ => PyData.bool true)) := by
    refine lcD_eq (ds := p.map iD) ?_ rfl (lcN1 (e := iD) _ p fun a ha => ?_)
    · simp only [runD, seqD, ifD, setD, asgD, forD, parD, par3D, setV, extD, appD, ownAt, vD, vA, oA, kA, fzA, bin, tB, tNot, tAnd, tOr, nA, andA, orA, ifA, chA, a0, aC, b0, bC, cal, calK, isA, is2A, slA, o0, oI, ixL, itS, itZ, itE, gN, g0, lamA, xO, sNil, sRet, sEx, sErr, sBk, sCt, sShare, bind_ret, bind_err, slA0, slAp, slAf, slAs, slD0, slDo, slDs, calling, toB, toD, toS, toI, frz, dataA, allS, mkTup, mkLst, itemsL, itemsT, share, share1, tupG, consG, List.append_nil, List.replicate, List.getElem?_cons_zero, List.getElem?_cons_succ, List.cons_append, List.nil_append, Nat.sub_self, List.length_cons, List.length_nil, List.set_cons_zero, List.set_cons_succ, List.foldl_cons, List.foldl_nil, if_true, if_false, ite_true, ite_false, reduceCtorEq, Nat.reduceAdd, Nat.reduceSub, Nat.reduceLeDiff, Bool.not_true, Bool.not_false, Bool.false_eq_true, pick, List.filterMap_cons, List.filterMap_nil, hs.items]
    · have h3 := h.lt a ha
      simp only [runD, seqD, ifD, setD, asgD, forD, parD, par3D, setV, extD, appD, ownAt, vD, vA, oA, kA, fzA, bin, tB, tNot, tAnd, tOr, nA, andA, orA, ifA, chA, a0, aC, b0, bC, cal, calK, isA, is2A, slA, o0, oI, ixL, itS, itZ, itE, gN, g0, lamA, xO, sNil, sRet, sEx, sErr, sBk, sCt, sShare, bind_ret, bind_err, slA0, slAp, slAf, slAs, slD0, slDo, slDs, calling, toB, toD, toS, toI, frz, dataA, allS, mkTup, mkLst, itemsL, itemsT, share, share1, tupG, consG, List.append_nil, List.replicate, List.getElem?_cons_zero, List.getElem?_cons_succ, List.cons_append, List.nil_append, Nat.sub_self, List.length_cons, List.length_nil, List.set_cons_zero, List.set_cons_succ, List.foldl_cons, List.foldl_nil, if_true, if_false, ite_true, ite_false, reduceCtorEq, Nat.reduceAdd, Nat.reduceSub, Nat.reduceLeDiff, Bool.not_true, Bool.not_false, Bool.false_eq_true, pick, List.filterMap_cons, List.filterMap_nil, sub1, e_is_within (show (0 : Int) ≤ (a : Int) by omega) (show (a : Int) ≤ (n : Int) - 1 by omega)]
  simp only [q_are_names_value, b_are_names_value, runD, seqD, ifD, setD, asgD, forD, parD, par3D, setV, extD, appD, ownAt, vD, vA, oA, kA, fzA, bin, tB, tNot, tAnd, tOr, nA, andA, orA, ifA, chA, a0, aC, b0, bC, cal, calK, isA, is2A, slA, o0, oI, ixL, itS, itZ, itE, gN, g0, lamA, xO, sNil, sRet, sEx, sErr, sBk, sCt, sShare, bind_ret, bind_err, slA0, slAp, slAf, slAs, slD0, slDo, slDs, calling, toB, toD, toS, toI, frz, dataA, allS, mkTup, mkLst, itemsL, itemsT, share, share1, tupG, consG, List.append_nil, List.replicate, List.getElem?_cons_zero, List.getElem?_cons_succ, List.cons_append, List.nil_append, Nat.sub_self, List.length_cons, List.length_nil, List.set_cons_zero, List.set_cons_succ, List.foldl_cons, List.foldl_nil, if_true, if_false, ite_true, ite_false, reduceCtorEq, Nat.reduceAdd, Nat.reduceSub, Nat.reduceLeDiff, Bool.not_true, Bool.not_false, Bool.false_eq_true, pick, List.filterMap_cons, List.filterMap_nil, hl, e_is_list hs, hs.len, h.len, ne_len, decide_true, all_true, hs.list, lenSet_perm h hn, eq_len]
theorem e_want_names {n : Nat} {R : Nat → Nat → Bool} {d : PyData} {p : List Nat} (h : Perm n p) (hs : IsSeq d p) (hn : n ≤ 1000) : d_want_names [.sh (encF n R), .sh d] = .ret (.sh .none) := by
  simp only [q_want_names, b_want_names, runD, seqD, ifD, setD, asgD, forD, parD, par3D, setV, extD, appD, ownAt, vD, vA, oA, kA, fzA, bin, tB, tNot, tAnd, tOr, nA, andA, orA, ifA, chA, a0, aC, b0, bC, cal, calK, isA, is2A, slA, o0, oI, ixL, itS, itZ, itE, gN, g0, lamA, xO, sNil, sRet, sEx, sErr, sBk, sCt, sShare, bind_ret, bind_err, slA0, slAp, slAf, slAs, slD0, slDo, slDs, calling, toB, toD, toS, toI, frz, dataA, allS, mkTup, mkLst, itemsL, itemsT, share, share1, tupG, consG, List.append_nil, List.replicate, List.getElem?_cons_zero, List.getElem?_cons_succ, List.cons_append, List.nil_append, Nat.sub_self, List.length_cons, List.length_nil, List.set_cons_zero, List.set_cons_succ, List.foldl_cons, List.foldl_nil, if_true, if_false, ite_true, ite_false, reduceCtorEq, Nat.reduceAdd, Nat.reduceSub, Nat.reduceLeDiff, Bool.not_true, Bool.not_false, Bool.false_eq_true, pick, List.filterMap_cons, List.filterMap_nil, len_F, e_are_names_value h hs hn]
theorem e_renamed {n : Nat} {R : Nat → Nat → Bool} {d : PyData} {p : List Nat} (h1 : 1 ≤ n) (h2 : n ≤ 6) (h : Perm n p) (hs : IsSeq d p) : d_renamed [.sh (encF n R), .sh d] = .ret (.sh (encF n (act p R))) := by
  have e : (AV.sh (.list (p.map iD))) = .sh (encN p) := rfl
  simp only [q_renamed, b_renamed, runD, seqD, ifD, setD, asgD, forD, parD, par3D, setV, extD, appD, ownAt, vD, vA, oA, kA, fzA, bin, tB, tNot, tAnd, tOr, nA, andA, orA, ifA, chA, a0, aC, b0, bC, cal, calK, isA, is2A, slA, o0, oI, ixL, itS, itZ, itE, gN, g0, lamA, xO, sNil, sRet, sEx, sErr, sBk, sCt, sShare, bind_ret, bind_err, slA0, slAp, slAf, slAs, slD0, slDo, slDs, calling, toB, toD, toS, toI, frz, dataA, allS, mkTup, mkLst, itemsL, itemsT, share, share1, tupG, consG, List.append_nil, List.replicate, List.getElem?_cons_zero, List.getElem?_cons_succ, List.cons_append, List.nil_append, Nat.sub_self, List.length_cons, List.length_nil, List.set_cons_zero, List.set_cons_succ, List.foldl_cons, List.foldl_nil, if_true, if_false, ite_true, ite_false, reduceCtorEq, Nat.reduceAdd, Nat.reduceSub, Nat.reduceLeDiff, Bool.not_true, Bool.not_false, Bool.false_eq_true, pick, List.filterMap_cons, List.filterMap_nil, e_want_relation h1 h2, e_want_names h hs (show n ≤ 1000 by omega), hs.list, e, e_renamed_of (show n ≤ 100000 by omega) h.names]
/-! ### a pair changed -/
def flipR (a b : Nat) (R : Nat → Nat → Bool) : Nat → Nat → Bool := fun i j => R i j != (decide (i = a) && decide (j = b))
theorem encT2 (a b : Nat) : PyData.tuple [iD a, iD b] = encT [a, b] := rfl
theorem eq_T2 {a b i j : Nat} : eqA (.tuple [iD i, iD j]) (.tuple [iD a, iD b]) = .ret (.sh (.bool (decide (i = a) && decide (j = b)))) := by
  have key : PyData.tuple [iD i, iD j] = PyData.tuple [iD a, iD b] ↔ i = a ∧ j = b := by
    constructor
    · intro h
      have h := PyData.tuple.inj h
      rw [List.cons.injEq, List.cons.injEq] at h
      exact ⟨iD_inj h.1, iD_inj h.2.1⟩
    · rintro ⟨rfl, rfl⟩
      rfl
  have d : Decidable (encT [i, j] = encT [a, b]) := decidable_of_iff _ key.symm
  show eqA (encT [i, j]) (encT [a, b]) = _
  rw [eqA_ok (ok_encT [i, j]) (ok_encT [a, b]) (by decide) (by decide)]
  congr 3
  rw [← Bool.decide_and]
  exact decide_eq_decide.mpr key
theorem ne_bool {a b : Bool} : neA (.bool a) (.bool b) = .ret (.sh (.bool (a != b))) := by
  cases a <;> cases b <;> rfl
theorem e_with_pair {n a b : Nat} {R : Nat → Nat → Bool} (h1 : 1 ≤ n) (h2 : n ≤ 6) (ha : a < n) (hb : b < n) : d_with_pair [.sh (encF n R), .sh (iD a), .sh (iD b)] = .ret (.sh (encF n (flipR a b R))) := by
  have hg : ∀ i, i < n → ∀ j, j < n → lamG 2 [2, 0, 1] 5 l_with_pair_0 [.sh (encF n R), .sh (iD a), .sh (iD b)] [iD i, iD j] = .ret (.bool (flipR a b R i j)) := fun i hi j hj => by
    show (l_with_pair_0 [.sh (iD i), .sh (iD j), .sh (iD b), .sh (encF n R), .sh (iD a)]).bind toS = _
    simp only [l_with_pair_0, runD, seqD, ifD, setD, asgD, forD, parD, par3D, setV, extD, appD, ownAt, vD, vA, oA, kA, fzA, bin, tB, tNot, tAnd, tOr, nA, andA, orA, ifA, chA, a0, aC, b0, bC, cal, calK, isA, is2A, slA, o0, oI, ixL, itS, itZ, itE, gN, g0, lamA, xO, sNil, sRet, sEx, sErr, sBk, sCt, sShare, bind_ret, bind_err, slA0, slAp, slAf, slAs, slD0, slDo, slDs, calling, toB, toD, toS, toI, frz, dataA, allS, mkTup, mkLst, itemsL, itemsT, share, share1, tupG, consG, List.append_nil, List.replicate, List.getElem?_cons_zero, List.getElem?_cons_succ, List.cons_append, List.nil_append, Nat.sub_self, List.length_cons, List.length_nil, List.set_cons_zero, List.set_cons_succ, List.foldl_cons, List.foldl_nil, if_true, if_false, ite_true, ite_false, reduceCtorEq, Nat.reduceAdd, Nat.reduceSub, Nat.reduceLeDiff, Bool.not_true, Bool.not_false, Bool.false_eq_true, pick, List.filterMap_cons, List.filterMap_nil, ix_F hi, mem_F hj, eq_T2, ne_bool]
    rfl
  have e := e_by_rule (n := n) (R := flipR a b R) (show n ≤ 100000 by omega) hg
  simp only [q_with_pair, b_with_pair, runD, seqD, ifD, setD, asgD, forD, parD, par3D, setV, extD, appD, ownAt, vD, vA, oA, kA, fzA, bin, tB, tNot, tAnd, tOr, nA, andA, orA, ifA, chA, a0, aC, b0, bC, cal, calK, isA, is2A, slA, o0, oI, ixL, itS, itZ, itE, gN, g0, lamA, xO, sNil, sRet, sEx, sErr, sBk, sCt, sShare, bind_ret, bind_err, slA0, slAp, slAf, slAs, slD0, slDo, slDs, calling, toB, toD, toS, toI, frz, dataA, allS, mkTup, mkLst, itemsL, itemsT, share, share1, tupG, consG, List.append_nil, List.replicate, List.getElem?_cons_zero, List.getElem?_cons_succ, List.cons_append, List.nil_append, Nat.sub_self, List.length_cons, List.length_nil, List.set_cons_zero, List.set_cons_succ, List.foldl_cons, List.foldl_nil, if_true, if_false, ite_true, ite_false, reduceCtorEq, Nat.reduceAdd, Nat.reduceSub, Nat.reduceLeDiff, Bool.not_true, Bool.not_false, Bool.false_eq_true, pick, List.filterMap_cons, List.filterMap_nil, e_want_relation h1 h2, e_want_thing ha, e_want_thing hb, len_F, e]
end Mf
end
section
set_option Elab.async false
set_option linter.all false
set_option autoImplicit false
set_option maxRecDepth 100000
/-! M5: all names. -/
namespace Mf
open PySem Dn Wk

theorem forI0 {α : Type} {v : Nat} {body : Dn.Env → T Out} {e : α → PyData} (I : List α → Dn.Env → Prop) (l : List α) : ∀ (r pre : List α) (ρ : Dn.Env), l = pre ++ r → I pre ρ →
    (∀ pre a suf ρ, l = pre ++ a :: suf → I pre ρ → ∃ ρ', body (ρ.set v (.sh (e a))) = .ret (.nx ρ') ∧ I (pre ++ [a]) ρ') → ∃ ρ', forItems (gN v) body (r.map e) ρ = .ret (.nx ρ') ∧ I l ρ'
  | [], pre, ρ, h, hI, _ => ⟨ρ, rfl, by rw [h, List.append_nil]; exact hI⟩
  | a :: r, pre, ρ, h, hI, hb => by
    obtain ⟨ρ1, h1, hI1⟩ := hb pre a r ρ h hI
    obtain ⟨ρ', h2, hI2⟩ := forI0 I l r (pre ++ [a]) ρ1 (by rw [h, List.append_assoc]; rfl) hI1 hb
    refine ⟨ρ', ?_, hI2⟩
    show ((T.ret (ρ.set v (.sh (e a)))).bind fun ρ1 => _) = _
    rw [bind_ret, h1, bind_ret]
    exact h2
theorem forI {α : Type} {v : Nat} {body : Dn.Env → T Out} {e : α → PyData} (I : List α → Dn.Env → Prop) (l : List α) (ρ : Dn.Env) (hI : I [] ρ)
    (hb : ∀ pre a suf ρ, l = pre ++ a :: suf → I pre ρ → ∃ ρ', body (ρ.set v (.sh (e a))) = .ret (.nx ρ') ∧ I (pre ++ [a]) ρ') : ∃ ρ', forItems (gN v) body (l.map e) ρ = .ret (.nx ρ') ∧ I l ρ' := forI0 I l l [] ρ rfl hI hb
def ext1 (n : Nat) (p : List Nat) : List (List Nat) := ((List.range n).filter fun a => !decide (a ∈ p)).map fun a => p ++ [a]
def grow (n : Nat) (f : List (List Nat)) : List (List Nat) := f.flatMap (ext1 n)
def growK (n : Nat) : Nat → List (List Nat)
  | 0 => [[]]
  | k + 1 => grow n (growK n k)
def perms (n : Nat) : List (List Nat) := growK n n
theorem ext1_len (n : Nat) (p : List Nat) : (ext1 n p).length ≤ n := by
  unfold ext1
  rw [List.length_map]
  exact Nat.le_trans (List.length_filter_le _ _) (by rw [List.length_range]; exact Nat.le_refl n)
theorem grow_len (n : Nat) : ∀ f : List (List Nat), (grow n f).length ≤ f.length * n
  | [] => Nat.zero_le _
  | p :: f => by
    have ih := grow_len n f
    unfold grow at ih ⊢
    rw [List.flatMap_cons, List.length_append, List.length_cons, Nat.add_mul, Nat.one_mul]
    have := ext1_len n p
    omega
theorem growK_len (n : Nat) : ∀ k, (growK n k).length ≤ n ^ k
  | 0 => Nat.le_refl _
  | k + 1 => by
    rw [Nat.pow_succ]
    exact Nat.le_trans (grow_len n _) (Nat.mul_le_mul_right n (growK_len n k))
theorem pow_bound {n k : Nat} (hn : n ≤ 6) (hk : k ≤ 6) : n ^ k ≤ 46656 := Nat.le_trans (Nat.pow_le_pow_left hn k) (Nat.le_trans (Nat.pow_le_pow_right (by decide) hk) (by decide))
theorem mem_growK (n : Nat) : ∀ (k : Nat) (p : List Nat), p ∈ growK n k ↔ p.length = k ∧ (∀ a ∈ p, a < n) ∧ p.Nodup
  | 0, p => by
    show p ∈ [[]] ↔ _
    rw [List.mem_singleton]
    constructor
    · rintro rfl
      exact ⟨rfl, ⟨fun a h => absurd h List.not_mem_nil, List.nodup_nil⟩⟩
    · rintro ⟨h, _⟩
      exact List.length_eq_zero_iff.mp h
  | k + 1, p => by
    show p ∈ grow n (growK n k) ↔ _
    unfold grow
    rw [List.mem_flatMap]
    constructor
    · rintro ⟨q, hq, hp⟩
      obtain ⟨h1, h2, h3⟩ := (mem_growK n k q).mp hq
      unfold ext1 at hp
      obtain ⟨a, ha, rfl⟩ := List.mem_map.mp hp
      rw [List.mem_filter, List.mem_range] at ha
      have ha2 : a ∉ q := by simpa using ha.2
      refine ⟨by rw [List.length_append, h1]; rfl, fun b hb => ?_, List.nodup_append.mpr ⟨h3, by simp, fun b hb c hc => by
        rw [List.mem_singleton] at hc
        subst hc
        exact fun e => ha2 (e ▸ hb)⟩⟩
      rcases List.mem_append.mp hb with hb | hb
      · exact h2 b hb
      · rw [List.mem_singleton] at hb
        rw [hb]
        exact ha.1
    · rintro ⟨h1, h2, h3⟩
      have hne : p ≠ [] := by
        intro e
        subst e
        simp at h1
      obtain ⟨q, a, rfl⟩ : ∃ q a, p = q ++ [a] := ⟨p.dropLast, p.getLast hne, (List.dropLast_concat_getLast hne).symm⟩
      rw [List.length_append, List.length_singleton] at h1
      obtain ⟨n1, _, n3⟩ := List.nodup_append.mp h3
      refine ⟨q, (mem_growK n k q).mpr ⟨by omega, fun b hb => h2 b (List.mem_append_left _ hb), n1⟩, ?_⟩
      unfold ext1
      refine List.mem_map.mpr ⟨a, ?_, rfl⟩
      rw [List.mem_filter, List.mem_range]
      refine ⟨h2 a (by simp), ?_⟩
      have : a ∉ q := fun hm => n3 a hm a (by simp) rfl
      simpa using this
theorem mem_perms {n : Nat} {p : List Nat} : p ∈ perms n ↔ Perm n p := by
  unfold perms
  rw [mem_growK]
  exact ⟨fun h => ⟨h.1, h.2.1, h.2.2⟩, fun h => ⟨h.len, h.lt, h.nd⟩⟩
/-! ### the loops -/
abbrev lcNames : Dn.Env → T AV := lcD [5] (itR (vD 0)) (gN 5) (tB (bin (memD not) (vD 5) (vD 4))) (bin addD (vD 4) (oA (cal mkLst (aC (vA 5) a0))))
theorem add_NN {p q : List Nat} (h : p.length + q.length ≤ 1000000) : addD (encN p) (encN q) = .ret (.own ((p ++ q).map iD)) := by
  show (if _ then _ else _) = _
  rw [if_pos (by rw [List.length_map, List.length_map]; exact h), List.map_append]
theorem lc_names {n : Nat} {p : List Nat} {x1 x2 x3 : AV} (hn : n ≤ 1000) (hp : p.length ≤ 1000) : lcNames [.sh (iD n), x1, x2, x3, .sh (encN p), .no] = .ret (.own ((ext1 n p).map encN)) := by
  have e : (ext1 n p).map encN = ((List.range n).filter fun a => !decide (a ∈ p)).map fun a => encN (p ++ [a]) := by
    unfold ext1
    rw [List.map_map]
    rfl
  rw [e]
  refine lcD_eq (itR_n rfl (by omega)) rfl (lcN (e := iD) _ _ _ (fun a _ => ?_) fun a _ _ => ?_)
  · simp only [runD, seqD, ifD, setD, asgD, forD, parD, par3D, setV, extD, appD, ownAt, vD, vA, oA, kA, fzA, bin, tB, tNot, tAnd, tOr, nA, andA, orA, ifA, chA, a0, aC, b0, bC, cal, calK, isA, is2A, slA, o0, oI, ixL, itS, itZ, itE, gN, g0, lamA, xO, sNil, sRet, sEx, sErr, sBk, sCt, sShare, bind_ret, bind_err, slA0, slAp, slAf, slAs, slD0, slDo, slDs, calling, toB, toD, toS, toI, frz, dataA, allS, mkTup, mkLst, itemsL, itemsT, share, share1, tupG, consG, List.append_nil, List.replicate, List.getElem?_cons_zero, List.getElem?_cons_succ, List.cons_append, List.nil_append, Nat.sub_self, List.length_cons, List.length_nil, List.set_cons_zero, List.set_cons_succ, List.foldl_cons, List.foldl_nil, if_true, if_false, ite_true, ite_false, reduceCtorEq, Nat.reduceAdd, Nat.reduceSub, Nat.reduceLeDiff, Bool.not_true, Bool.not_false, Bool.false_eq_true, pick, List.filterMap_cons, List.filterMap_nil, mem_N]
  · show (addD (encN p) (encN [a])).bind toS = _
    rw [add_NN (by rw [List.length_singleton]; omega)]
    rfl
theorem names_loop {n : Nat} {f : List (List Nat)} {x2 x4 : AV} (hn : n ≤ 6) (hf : f.length ≤ 46656) (hp : ∀ p ∈ f, p.length ≤ 1000) :
    ∃ x', forItems (gN 4) (extD 3 lcNames) (f.map encN) [.sh (iD n), .sh (.list (f.map encN)), x2, .own [], x4, .no] = .ret (.nx [.sh (iD n), .sh (.list (f.map encN)), x2, .own ((grow n f).map encN), x', .no]) := by
  obtain ⟨ρ', h1, x', rfl⟩ := forI (v := 4) (body := extD 3 lcNames) (e := encN) (fun pre ρ => ∃ x', ρ = [.sh (iD n), .sh (.list (f.map encN)), x2, .own ((grow n pre).map encN), x', .no]) f [.sh (iD n), .sh (.list (f.map encN)), x2, .own [], x4, .no] ⟨x4, rfl⟩ (by
    rintro pre a suf _ e ⟨x', rfl⟩
    have ha : a ∈ f := by rw [e]; simp
    have hl : pre.length ≤ 46656 := by
      have := congrArg List.length e
      rw [List.length_append] at this
      omega
    refine ⟨[.sh (iD n), .sh (.list (f.map encN)), x2, .own ((grow n (pre ++ [a])).map encN), .sh (encN a), .no], ?_, _, rfl⟩
    show extD 3 lcNames [.sh (iD n), .sh (.list (f.map encN)), x2, .own ((grow n pre).map encN), .sh (encN a), .no] = _
    unfold extD
    show (lcNames [.sh (iD n), .sh (.list (f.map encN)), x2, .own ((grow n pre).map encN), .sh (encN a), .no]).bind _ = _
    rw [lc_names (by omega) (hp a ha)]
    show (if _ then _ else _) = _
    have g1 := grow_len n pre
    have g2 := ext1_len n a
    have g3 : pre.length * n ≤ 46656 * 6 := Nat.mul_le_mul hl hn
    rw [if_pos (by rw [List.length_map, List.length_map]; omega)]
    have g4 : grow n (pre ++ [a]) = grow n pre ++ ext1 n a := by
      unfold grow
      rw [List.flatMap_append, List.flatMap_cons, List.flatMap_nil, List.append_nil]
    rw [g4, List.map_append]
    rfl)
  exact ⟨x', h1⟩
theorem e_all_names {n : Nat} (hn : n ≤ 6) : d_all_names [.sh (iD n)] = .ret (.sh (.list ((perms n).map encN))) := by
  let BODY : Dn.Env → T Out := seqD (setD 3 (cal mkLst (a0))) (seqD (forD (itS (vA 1)) (gN 4) (extD 3 lcNames)) (sShare [3] (setD 1 (fzA (vA 3)))))
  obtain ⟨ρ', h1, x2, x3, x4, rfl⟩ := forI (v := 2) (body := BODY) (e := iD) (fun pre ρ => ∃ x2 x3 x4, ρ = [.sh (iD n), .sh (.list ((growK n pre.length).map encN)), x2, x3, x4, .no]) (List.range n) [.sh (iD n), .sh (.list [encN []]), .no, .no, .no, .no] ⟨_, _, _, rfl⟩ (by
    rintro pre a suf _ e ⟨x2, x3, x4, rfl⟩
    have hk : pre.length ≤ n := by
      have := congrArg List.length e
      rw [List.length_append, List.length_range] at this
      omega
    obtain ⟨x', hx⟩ := names_loop (n := n) (f := growK n pre.length) (x2 := .sh (iD a)) (x4 := x4) hn (Nat.le_trans (growK_len n _) (pow_bound hn (by omega))) (fun p hp => by
      have := ((mem_growK n _ p).mp hp).1
      omega)
    refine ⟨[.sh (iD n), .sh (.list ((growK n (pre ++ [a]).length).map encN)), .sh (iD a), .sh (.list ((growK n (pre ++ [a]).length).map encN)), x', .no], ?_, _, _, _, rfl⟩
    show BODY [.sh (iD n), .sh (.list ((growK n pre.length).map encN)), .sh (iD a), x3, x4, .no] = _
    rw [List.length_append]
    show ((forItems (gN 4) (extD 3 lcNames) ((growK n pre.length).map encN) [.sh (iD n), .sh (.list ((growK n pre.length).map encN)), .sh (iD a), .own [], x4, .no]).bind _) = _
    rw [hx]
    rfl)
  rw [List.length_range] at h1
  rw [q_all_names]
  unfold runD b_all_names
  show ((((itR (vD 0) [.sh (iD n), .sh (.list [encN []]), .no, .no, .no, .no]).bind fun ds => forItems (gN 2) BODY ds [.sh (iD n), .sh (.list [encN []]), .no, .no, .no, .no]).bind _).bind _ : T AV) = _
  rw [itR_n (ρ := [.sh (iD n), .sh (.list [encN []]), .no, .no, .no, .no]) (f := vD 0) rfl (show n ≤ 100000 by omega), bind_ret, h1]
  rfl
theorem e__law_all_names {n : Nat} (hn : n ≤ 6) : d__law_all_names [.sh (iD n)] = .ret (.sh (.list ((perms n).map encN))) := by
  rw [q__law_all_names, ← e_all_names hn, q_all_names]
  rfl
end Mf
end
section
set_option Elab.async false
set_option linter.all false
set_option autoImplicit false
set_option maxRecDepth 100000
/-! M6: relations compared, renamed by the law. -/
namespace Mf
open PySem Dn Wk

/-! ### equal relations -/
def eqF (n : Nat) (R S : Nat → Nat → Bool) : Bool := (List.range n).all fun i => (List.range n).all fun j => R i j == S i j
theorem eqF_iff {n : Nat} {R S : Nat → Nat → Bool} : eqF n R S = true ↔ ∀ i, i < n → ∀ j, j < n → R i j = S i j := by
  unfold eqF
  rw [List.all_eq_true]
  constructor
  · intro h i hi j hj
    have h1 := List.all_eq_true.mp (h i (List.mem_range.mpr hi)) j (List.mem_range.mpr hj)
    simpa using h1
  · intro h i hi
    rw [List.all_eq_true]
    intro j hj
    have := h i (List.mem_range.mp hi) j (List.mem_range.mp hj)
    simpa using this
theorem map_iD_inj : ∀ {l m : List Nat}, l.map iD = m.map iD → l = m
  | [], [], _ => rfl
  | [], _ :: _, h => by cases h
  | _ :: _, [], h => by cases h
  | a :: l, b :: m, h => by
    rw [List.map_cons, List.map_cons, List.cons.injEq] at h
    rw [iD_inj h.1, map_iD_inj h.2]
theorem encT_inj {l m : List Nat} (h : encT l = encT m) : l = m := map_iD_inj (PyData.tuple.inj h)
theorem encN_inj {l m : List Nat} (h : encN l = encN m) : l = m := map_iD_inj (PyData.list.inj h)
theorem encF_iff {n : Nat} {R S : Nat → Nat → Bool} : encF n R = encF n S ↔ eqF n R S = true := by
  rw [eqF_iff]
  constructor
  · intro h i hi j hj
    have h1 := congrArg (fun l : List PyData => l[i]?) (PyData.tuple.inj h)
    simp only [List.getElem?_map, List.getElem?_range hi, Option.map_some, Option.some.injEq] at h1
    have h2 := encT_inj h1
    have h3 : j ∈ rowOf n R i ↔ j ∈ rowOf n S i := by rw [h2]
    rw [mem_row, mem_row] at h3
    cases a : R i j <;> cases b : S i j <;> simp [a, b, hj] at h3 <;> rfl
  · intro h
    unfold encF
    congr 1
    refine List.map_congr_left fun i hi => ?_
    congr 1
    exact List.filter_congr fun j hj => h i (List.mem_range.mp hi) j (List.mem_range.mp hj)
theorem eq_F {n : Nat} {R S : Nat → Nat → Bool} : eqA (encF n R) (encF n S) = .ret (.sh (.bool (eqF n R S))) := by
  have d : Decidable (encF n R = encF n S) := decidable_of_iff _ encF_iff.symm
  rw [eqA_ok (ok_encF n R) (ok_encF n S) (by decide) (by decide)]
  congr 3
  cases h : eqF n R S with
  | true => exact decide_eq_true (encF_iff.mpr h)
  | false => exact decide_eq_false fun z => by rw [encF_iff.mp z] at h; cases h
theorem ne_F {n : Nat} {R S : Nat → Nat → Bool} : neA (encF n R) (encF n S) = .ret (.sh (.bool (!eqF n R S))) := by
  have d : Decidable (encF n R = encF n S) := decidable_of_iff _ encF_iff.symm
  rw [neA_ok (ok_encF n R) (ok_encF n S) (by decide) (by decide)]
  congr 4
  cases h : eqF n R S with
  | true => exact decide_eq_true (encF_iff.mpr h)
  | false => exact decide_eq_false fun z => by rw [encF_iff.mp z] at h; cases h
theorem eqF_refl (n : Nat) (R : Nat → Nat → Bool) : eqF n R R = true := eqF_iff.mpr fun _ _ _ _ => rfl
/-! ### sorted lists of numbers -/
def sortL (l : List Nat) : List Nat := l.mergeSort fun a b => decide (a ≤ b)
theorem sortL_perm (l : List Nat) : (sortL l).Perm l := List.mergeSort_perm _ _
theorem sortL_pw (l : List Nat) : (sortL l).Pairwise (· ≤ ·) := (List.pairwise_mergeSort (le := fun a b : Nat => decide (a ≤ b)) (fun a b c h1 h2 => by simp at h1 h2 ⊢; omega) (fun a b => by simp; omega) l).imp fun h => by simpa using h
theorem sorted_uniq {l m : List Nat} (h : l.Perm m) (hl : l.Pairwise (· ≤ ·)) (hm : m.Pairwise (· ≤ ·)) : l = m := List.Perm.eq_of_pairwise (le := fun a b => a ≤ b) (fun a b _ _ x y => Nat.le_antisymm x y) hl hm h
theorem sortL_of_perm {l m : List Nat} (h : l.Perm m) : sortL l = sortL m := sorted_uniq ((sortL_perm l).trans (h.trans (sortL_perm m).symm)) (sortL_pw l) (sortL_pw m)
theorem sortL_sorted {l : List Nat} (h : l.Pairwise (· ≤ ·)) : sortL l = l := sorted_uniq (sortL_perm l) (sortL_pw l) h
theorem dataLt_iD {a b : Nat} : PySem.W.dataLt (iD a) (iD b) = decide (a < b) := by
  have e := congrFun (congrFun (PySem.W.dataLe_int (fun b : Nat => (b : Int))) b) a
  have e2 : (!PySem.W.dataLt (iD a) (iD b)) = decide ((b : Int) ≤ (a : Int)) := e
  have e3 : PySem.W.dataLt (iD a) (iD b) = !decide ((b : Int) ≤ (a : Int)) := by rw [← e2, Bool.not_not]
  rw [e3]
  by_cases h : a < b
  · rw [decide_eq_true h, decide_eq_false (by omega)]
    rfl
  · rw [decide_eq_false h, decide_eq_true (by omega)]
    rfl
theorem sortOf_iD (l : List Nat) : sortOf (l.map iD) = (sortL l).map iD := by
  unfold sortOf sortL
  refine (List.map_mergeSort (fun a _ b _ => ?_)).symm
  show decide (a ≤ b) = !PySem.W.dataLt (iD b) (iD a)
  rw [dataLt_iD]
  by_cases h : a ≤ b
  · rw [decide_eq_true h, decide_eq_false (by omega)]
    rfl
  · rw [decide_eq_false h, decide_eq_true (by omega)]
    rfl
theorem sorted_iD (l : List Nat) : sortedD [.list (l.map iD)] = .ret (.own ((sortL l).map iD)) := by
  have e1 : alikeB (l.map iD) = true := by
    unfold alikeB
    rw [List.all_eq_true]
    intro x hx
    rw [List.all_eq_true]
    intro y hy
    obtain ⟨a, _, rfl⟩ := List.mem_map.mp hx
    obtain ⟨b, _, rfl⟩ := List.mem_map.mp hy
    simp [PySem.W.alike]
  have e2 : sortB (l.map iD) = true := by
    unfold sortB
    rw [Bool.and_eq_true, Bool.or_eq_true]
    refine ⟨.inr ?_, ?_⟩
    · rw [List.all_eq_true]
      intro x hx
      obtain ⟨a, _, rfl⟩ := List.mem_map.mp hx
      rfl
    · rw [List.all_eq_true]
      intro x hx
      obtain ⟨a, _, rfl⟩ := List.mem_map.mp hx
      simp [PyData.depth]
  show sortedL (l.map iD) = _
  unfold sortedL
  rw [e1, e2, if_pos (show (true && true) = true from rfl), sortOf_iD]
/-! ### places -/
theorem nd_inj {p : List Nat} (h : p.Nodup) {i j : Nat} (hi : i < p.length) (hj : j < p.length) (e : p[i] = p[j]) : i = j := by
  have q := List.pairwise_iff_getElem.mp h
  rcases Nat.lt_trichotomy i j with c | c | c
  · exact absurd e (q i j hi hj c)
  · exact c
  · exact absurd e.symm (q j i hj hi c)
theorem index_N {n : Nat} {p : List Nat} {a : Nat} (h : Perm n p) (ha : a < n) : ∃ j, j < n ∧ p.getD j 0 = a ∧ indexL (p.map iD) (iD a) = .ret (.sh (iD j)) := by
  have hm : a ∈ p := h.perm.mem_iff.mpr (List.mem_range.mpr ha)
  obtain ⟨j, hj, e⟩ := List.mem_iff_getElem.mp hm
  have hjn : j < n := by rw [← h.len]; exact hj
  refine ⟨j, hjn, by rw [List.getD_eq_getElem?_getD, List.getElem?_eq_getElem hj, e] <;> rfl, ?_⟩
  have hf : (p.map iD).findIdx? (fun z => PyData.eqv z (iD a)) = some j := by
    rw [List.findIdx?_eq_some_iff_getElem]
    refine ⟨by rw [List.length_map]; exact hj, ?_, fun k hk => ?_⟩
    · rw [List.getElem_map, e]
      exact (eqv_ok (Ok.int (n := 0) _) (Ok.int (n := 0) _)).mpr rfl
    · rw [List.getElem_map]
      intro z
      have z := iD_inj ((eqv_ok (Ok.int (n := 0) _) (Ok.int (n := 0) _)).mp z)
      rw [← e] at z
      have := nd_inj h.nd (by omega) hj z
      omega
  unfold indexL
  have k1 : Dn.okD (.list (p.map iD)) = true := (ok_encN p).okD (by decide)
  rw [k1, (Ok.int (n := 0) (a : Int)).okD (by decide), if_pos (show (true && true) = true from rfl), hf]
  rfl
theorem getD_inj {n : Nat} {p : List Nat} (h : Perm n p) {i j : Nat} (hi : i < n) (hj : j < n) (e : p.getD i 0 = p.getD j 0) : i = j := by
  have hi' : i < p.length := by rw [h.len]; exact hi
  have hj' : j < p.length := by rw [h.len]; exact hj
  rw [List.getD_eq_getElem?_getD, List.getElem?_eq_getElem hi', List.getD_eq_getElem?_getD, List.getElem?_eq_getElem hj'] at e
  exact nd_inj h.nd hi' hj' e
end Mf
end
section
set_option Elab.async false
set_option linter.all false
set_option autoImplicit false
set_option maxRecDepth 100000
/-! M7: renaming by the law, namings, first forms. -/
namespace Mf
open PySem Dn Wk

open Classical in
noncomputable def plc (n : Nat) (p : List Nat) (a : Nat) : Nat := if h : ∃ j, j < n ∧ p.getD j 0 = a ∧ indexL (p.map iD) (iD a) = .ret (.sh (iD j)) then h.choose else 0
theorem plc_spec {n : Nat} {p : List Nat} {a : Nat} (h : Perm n p) (ha : a < n) : plc n p a < n ∧ p.getD (plc n p a) 0 = a ∧ indexL (p.map iD) (iD a) = .ret (.sh (iD (plc n p a))) := by
  unfold plc
  rw [dif_pos (index_N h ha)]
  exact (index_N h ha).choose_spec
theorem map_getD {β : Type} {n : Nat} {p : List Nat} (f : Nat → β) (h : p.length = n) : p.map f = (List.range n).map fun i => f (p.getD i 0) := by
  apply List.ext_getElem?
  intro i
  rw [List.getElem?_map, List.getElem?_map]
  by_cases hi : i < n
  · rw [List.getElem?_range hi, List.getElem?_eq_getElem (by rw [h]; exact hi)]
    rw [Option.map_some, Option.map_some, List.getD_eq_getElem?_getD, List.getElem?_eq_getElem (by rw [h]; exact hi)]
    rfl
  · rw [List.getElem?_eq_none (by rw [h]; omega), List.getElem?_eq_none (by rw [List.length_range]; omega)]
    rfl
theorem nodup_map_on {f : Nat → Nat} : ∀ {l : List Nat}, (∀ a ∈ l, ∀ b ∈ l, f a = f b → a = b) → l.Nodup → (l.map f).Nodup
  | [], _, _ => List.nodup_nil
  | a :: l, hf, hn => by
    rw [List.nodup_cons] at hn
    rw [List.map_cons, List.nodup_cons]
    refine ⟨fun hm => ?_, nodup_map_on (fun b hb c hc => hf b (List.mem_cons_of_mem _ hb) c (List.mem_cons_of_mem _ hc)) hn.2⟩
    obtain ⟨b, hb, e⟩ := List.mem_map.mp hm
    exact hn.1 (hf b (List.mem_cons_of_mem _ hb) a List.mem_cons_self e ▸ hb)
theorem row_perm {n i : Nat} {R : Nat → Nat → Bool} {p : List Nat} (h : Perm n p) (hi : i < n) : ((rowOf n R (p.getD i 0)).map (plc n p)).Perm (rowOf n (act p R) i) := by
  have nd1 : (rowOf n R (p.getD i 0)).Nodup := (row_up n R _).imp fun h e => by omega
  have nd2 : (rowOf n (act p R) i).Nodup := (row_up n _ _).imp fun h e => by omega
  refine (List.perm_ext_iff_of_nodup ?_ nd2).mpr fun j => ?_
  · refine nodup_map_on (fun a ha b hb e => ?_) nd1
    have q1 := (plc_spec h (mem_row.mp ha).1).2.1
    have q2 := (plc_spec h (mem_row.mp hb).1).2.1
    rw [← q1, ← q2, e]
  · rw [List.mem_map, mem_row]
    constructor
    · rintro ⟨a, ha, rfl⟩
      rw [mem_row] at ha
      obtain ⟨q1, q2, _⟩ := plc_spec h ha.1
      refine ⟨q1, ?_⟩
      unfold act
      rw [q2]
      exact ha.2
    · rintro ⟨hj, hr⟩
      have hl := h.names.lt hj
      obtain ⟨q1, q2, _⟩ := plc_spec h hl
      refine ⟨p.getD j 0, mem_row.mpr ⟨hl, hr⟩, ?_⟩
      exact getD_inj h q1 hj q2
theorem e__law_renamed {n : Nat} {R : Nat → Nat → Bool} {p : List Nat} (h : Perm n p) : d__law_renamed [.sh (encF n R), .sh (encN p)] = .ret (.sh (encF n (act p R))) := by
  have inner : ∀ a, a < n → lcD [2] (itS (bin ixD (vD 0) (vD 3))) (gN 2) lcTest0 (ixL (vD 1) (vD 2)) [.sh (encF n R), .sh (encN p), .no, .sh (iD a)] = .ret (.own ((rowOf n R a).map fun b => iD (plc n p b))) := fun a ha => by
    refine lcD_eq (ds := (rowOf n R a).map iD) ?_ rfl (lcN1 (e := iD) _ _ fun b hb => ?_)
    · simp only [runD, seqD, ifD, setD, asgD, forD, parD, par3D, setV, extD, appD, ownAt, vD, vA, oA, kA, fzA, bin, tB, tNot, tAnd, tOr, nA, andA, orA, ifA, chA, a0, aC, b0, bC, cal, calK, isA, is2A, slA, o0, oI, ixL, itS, itZ, itE, gN, g0, lamA, xO, sNil, sRet, sEx, sErr, sBk, sCt, sShare, bind_ret, bind_err, slA0, slAp, slAf, slAs, slD0, slDo, slDs, calling, toB, toD, toS, toI, frz, dataA, allS, mkTup, mkLst, itemsL, itemsT, share, share1, tupG, consG, List.append_nil, List.replicate, List.getElem?_cons_zero, List.getElem?_cons_succ, List.cons_append, List.nil_append, Nat.sub_self, List.length_cons, List.length_nil, List.set_cons_zero, List.set_cons_succ, List.foldl_cons, List.foldl_nil, if_true, if_false, ite_true, ite_false, reduceCtorEq, Nat.reduceAdd, Nat.reduceSub, Nat.reduceLeDiff, Bool.not_true, Bool.not_false, Bool.false_eq_true, pick, List.filterMap_cons, List.filterMap_nil, ix_F ha]
      rfl
    · show ((indexL (p.map iD) (iD b)).bind toS) = _
      rw [(plc_spec h (mem_row.mp hb).1).2.2]
      rfl
  have out : lcD [3] (itS (vA 1)) (gN 3) lcTest0 (cal tupleD (bC (oA (cal sortedD (bC (oA (lcD [2] (itS (bin ixD (vD 0) (vD 3))) (gN 2) lcTest0 (ixL (vD 1) (vD 2)))) b0))) b0)) [.sh (encF n R), .sh (encN p), .no, .no] = .ret (.own (p.map fun a => encT (sortL ((rowOf n R a).map (plc n p))))) := by
    refine lcD_eq (ds := p.map iD) rfl rfl (lcN1 (e := iD) _ _ fun a ha => ?_)
    show (((((((lcD [2] (itS (bin ixD (vD 0) (vD 3))) (gN 2) lcTest0 (ixL (vD 1) (vD 2)) [.sh (encF n R), .sh (encN p), .no, .sh (iD a)]).bind toD).bind fun x => T.ret [x]).bind sortedD).bind toD).bind fun x => T.ret [x]).bind tupleD).bind toS = _
    rw [inner a (h.lt a ha)]
    have e : ((rowOf n R a).map fun b => iD (plc n p b)) = ((rowOf n R a).map (plc n p)).map iD := by rw [List.map_map]; rfl
    rw [e]
    show (((((sortedD [.list (((rowOf n R a).map (plc n p)).map iD)]).bind toD).bind fun x => T.ret [x]).bind tupleD).bind toS : T PyData) = _
    rw [sorted_iD]
    rfl
  have fin : (p.map fun a => encT (sortL ((rowOf n R a).map (plc n p)))) = (List.range n).map fun i => encT (rowOf n (act p R) i) := by
    rw [map_getD _ h.len]
    refine List.map_congr_left fun i hi => ?_
    congr 1
    rw [sortL_of_perm (row_perm h (List.mem_range.mp hi))]
    exact sortL_sorted ((row_up n _ _).imp fun h => Nat.le_of_lt h)
  rw [q__law_renamed]
  unfold runD b__law_renamed
  show (((((lcD [3] (itS (vA 1)) (gN 3) lcTest0 (cal tupleD (bC (oA (cal sortedD (bC (oA (lcD [2] (itS (bin ixD (vD 0) (vD 3))) (gN 2) lcTest0 (ixL (vD 1) (vD 2)))) b0))) b0)) [.sh (encF n R), .sh (encN p), .no, .no]).bind toD).bind fun x => T.ret [x]).bind tupleD).bind fun av => T.ret (Out.rt av)).bind _ = _
  rw [out, fin]
  rfl
end Mf
end
section
set_option Elab.async false
set_option linter.all false
set_option autoImplicit false
set_option maxRecDepth 100000
/-! M8: namings, first forms. -/
namespace Mf
open PySem Dn Wk

/-! ### namings -/
def same (n : Nat) (R S : Nat → Nat → Bool) : List (List Nat) := (perms n).filter fun p => eqF n (act p R) S
def lens (n : Nat) (R : Nat → Nat → Bool) : List Nat := (List.range n).map fun i => (rowOf n R i).length
theorem lens_act {n : Nat} {R : Nat → Nat → Bool} {p : List Nat} (h : Perm n p) : (lens n (act p R)).Perm (lens n R) := by
  have e : lens n (act p R) = p.map fun a => (rowOf n R a).length := by
    rw [map_getD _ h.len]
    refine List.map_congr_left fun i hi => ?_
    have := (row_perm (R := R) h (List.mem_range.mp hi)).length_eq
    rw [List.length_map] at this
    exact this.symm
  rw [e]
  exact h.perm.map _
theorem lens_eqF {n : Nat} {R S : Nat → Nat → Bool} (h : eqF n R S = true) : lens n R = lens n S := by
  unfold lens
  refine List.map_congr_left fun i hi => ?_
  congr 1
  exact List.filter_congr fun j hj => eqF_iff.mp h i (List.mem_range.mp hi) j (List.mem_range.mp hj)
theorem same_nil {n : Nat} {R S : Nat → Nat → Bool} (h : sortL (lens n R) ≠ sortL (lens n S)) : same n R S = [] := by
  refine List.filter_eq_nil_iff.mpr fun p hp z => h ?_
  have q := lens_eqF (R := act p R) (S := S) (by simpa using z)
  rw [← q]
  exact (sortL_of_perm (lens_act (mem_perms.mp hp))).symm
theorem lens_lc {n : Nat} {R : Nat → Nat → Bool} {ρ : Dn.Env} {i : Nat} (h0 : slotA ρ i = .ret (.sh (encF n R))) (h1 : [2].all (notOwn ρ) = true) (h2 : 2 < ρ.length) : lcD [2] (itS (vA i)) (gN 2) lcTest0 (cal lenD (bC (vD 2) b0)) ρ = .ret (.own ((lens n R).map iD)) := by
  have e : (lens n R).map iD = (List.range n).map fun i => iD (rowOf n R i).length := by
    unfold lens
    rw [List.map_map]
    rfl
  rw [e]
  refine lcD_eq (ds := (List.range n).map fun i => encT (rowOf n R i)) ?_ h1 (lcN1 (e := fun i => encT (rowOf n R i)) _ _ fun j _ => ?_)
  · show ((slotA ρ i).bind toS).bind itemsD = _
    rw [h0]
    rfl
  · have q : slotD (ρ.set 2 (.sh (encT (rowOf n R j)))) 2 = .ret (encT (rowOf n R j)) := by
      unfold slotD
      rw [List.getElem?_set_self h2]
    show (((slotD (ρ.set 2 (.sh (encT (rowOf n R j)))) 2).bind fun x => T.ret [x]).bind lenD).bind toS = _
    rw [q]
    show T.ret (PyData.int ((List.map iD (rowOf n R j)).length : Nat)) = _
    rw [List.length_map]
theorem ne_N {p q : List Nat} : neA (.list (p.map iD)) (.list (q.map iD)) = .ret (.sh (.bool (!decide (p = q)))) := by
  have key : encN p = encN q ↔ p = q := ⟨encN_inj, fun h => by rw [h]⟩
  have d : Decidable (encN p = encN q) := decidable_of_iff _ key.symm
  show neA (encN p) (encN q) = _
  rw [neA_ok (ok_encN p) (ok_encN q) (by decide) (by decide)]
  congr 4
  exact decide_eq_decide.mpr key
theorem e_namings_of {n : Nat} {R S : Nat → Nat → Bool} (hn : n ≤ 6) : d_namings_of [.sh (encF n R), .sh (encF n S)] = .ret (.own ((same n R S).map encN)) := by
  have l1 := lens_lc (n := n) (R := R) (ρ := [.sh (encF n R), .sh (encF n S), .no, .no]) (i := 0) rfl rfl (by simp)
  have l2 := lens_lc (n := n) (R := S) (ρ := [.sh (encF n R), .sh (encF n S), .no, .no]) (i := 1) rfl rfl (by simp)
  have l3 : lcD [3] (itS (cal (calling 1 d_all_names) (aC (cal lenD (bC (vD 0) b0)) a0))) (gN 3) (tB (bin eqA (oA (cal (calling 2 d_renamed_of) (aC (vA 0) (aC (vA 3) a0)))) (vD 1))) (vA 3) [.sh (encF n R), .sh (encF n S), .no, .no] = .ret (.own ((same n R S).map encN)) := by
    refine lcD_eq (ds := (perms n).map encN) ?_ rfl (lcN (e := encN) _ encN (perms n) (fun p hp => ?_) fun p _ _ => rfl)
    · simp only [runD, seqD, ifD, setD, asgD, forD, parD, par3D, setV, extD, appD, ownAt, vD, vA, oA, kA, fzA, bin, tB, tNot, tAnd, tOr, nA, andA, orA, ifA, chA, a0, aC, b0, bC, cal, calK, isA, is2A, slA, o0, oI, ixL, itS, itZ, itE, gN, g0, lamA, xO, sNil, sRet, sEx, sErr, sBk, sCt, sShare, bind_ret, bind_err, slA0, slAp, slAf, slAs, slD0, slDo, slDs, calling, toB, toD, toS, toI, frz, dataA, allS, mkTup, mkLst, itemsL, itemsT, share, share1, tupG, consG, List.append_nil, List.replicate, List.getElem?_cons_zero, List.getElem?_cons_succ, List.cons_append, List.nil_append, Nat.sub_self, List.length_cons, List.length_nil, List.set_cons_zero, List.set_cons_succ, List.foldl_cons, List.foldl_nil, if_true, if_false, ite_true, ite_false, reduceCtorEq, Nat.reduceAdd, Nat.reduceSub, Nat.reduceLeDiff, Bool.not_true, Bool.not_false, Bool.false_eq_true, pick, List.filterMap_cons, List.filterMap_nil, len_F, e_all_names hn]
    · simp only [runD, seqD, ifD, setD, asgD, forD, parD, par3D, setV, extD, appD, ownAt, vD, vA, oA, kA, fzA, bin, tB, tNot, tAnd, tOr, nA, andA, orA, ifA, chA, a0, aC, b0, bC, cal, calK, isA, is2A, slA, o0, oI, ixL, itS, itZ, itE, gN, g0, lamA, xO, sNil, sRet, sEx, sErr, sBk, sCt, sShare, bind_ret, bind_err, slA0, slAp, slAf, slAs, slD0, slDo, slDs, calling, toB, toD, toS, toI, frz, dataA, allS, mkTup, mkLst, itemsL, itemsT, share, share1, tupG, consG, List.append_nil, List.replicate, List.getElem?_cons_zero, List.getElem?_cons_succ, List.cons_append, List.nil_append, Nat.sub_self, List.length_cons, List.length_nil, List.set_cons_zero, List.set_cons_succ, List.foldl_cons, List.foldl_nil, if_true, if_false, ite_true, ite_false, reduceCtorEq, Nat.reduceAdd, Nat.reduceSub, Nat.reduceLeDiff, Bool.not_true, Bool.not_false, Bool.false_eq_true, pick, List.filterMap_cons, List.filterMap_nil, e_renamed_of (n := n) (R := R) (show n ≤ 100000 by omega) (mem_perms.mp hp).names, eq_F]
  by_cases h : sortL (lens n R) = sortL (lens n S)
  · simp only [q_namings_of, b_namings_of, runD, seqD, ifD, setD, asgD, forD, parD, par3D, setV, extD, appD, ownAt, vD, vA, oA, kA, fzA, bin, tB, tNot, tAnd, tOr, nA, andA, orA, ifA, chA, a0, aC, b0, bC, cal, calK, isA, is2A, slA, o0, oI, ixL, itS, itZ, itE, gN, g0, lamA, xO, sNil, sRet, sEx, sErr, sBk, sCt, sShare, bind_ret, bind_err, slA0, slAp, slAf, slAs, slD0, slDo, slDs, calling, toB, toD, toS, toI, frz, dataA, allS, mkTup, mkLst, itemsL, itemsT, share, share1, tupG, consG, List.append_nil, List.replicate, List.getElem?_cons_zero, List.getElem?_cons_succ, List.cons_append, List.nil_append, Nat.sub_self, List.length_cons, List.length_nil, List.set_cons_zero, List.set_cons_succ, List.foldl_cons, List.foldl_nil, if_true, if_false, ite_true, ite_false, reduceCtorEq, Nat.reduceAdd, Nat.reduceSub, Nat.reduceLeDiff, Bool.not_true, Bool.not_false, Bool.false_eq_true, pick, List.filterMap_cons, List.filterMap_nil, l1, l2, sorted_iD, ne_N, h, decide_true, l3]
  · simp only [q_namings_of, b_namings_of, runD, seqD, ifD, setD, asgD, forD, parD, par3D, setV, extD, appD, ownAt, vD, vA, oA, kA, fzA, bin, tB, tNot, tAnd, tOr, nA, andA, orA, ifA, chA, a0, aC, b0, bC, cal, calK, isA, is2A, slA, o0, oI, ixL, itS, itZ, itE, gN, g0, lamA, xO, sNil, sRet, sEx, sErr, sBk, sCt, sShare, bind_ret, bind_err, slA0, slAp, slAf, slAs, slD0, slDo, slDs, calling, toB, toD, toS, toI, frz, dataA, allS, mkTup, mkLst, itemsL, itemsT, share, share1, tupG, consG, List.append_nil, List.replicate, List.getElem?_cons_zero, List.getElem?_cons_succ, List.cons_append, List.nil_append, Nat.sub_self, List.length_cons, List.length_nil, List.set_cons_zero, List.set_cons_succ, List.foldl_cons, List.foldl_nil, if_true, if_false, ite_true, ite_false, reduceCtorEq, Nat.reduceAdd, Nat.reduceSub, Nat.reduceLeDiff, Bool.not_true, Bool.not_false, Bool.false_eq_true, pick, List.filterMap_cons, List.filterMap_nil, l1, l2, sorted_iD, ne_N, h, decide_false, same_nil h, Nat.zero_le, List.map_nil]
/-! ### first forms -/
def bestStep (n : Nat) (R : Nat → Nat → Bool) (s : PyData × PyData) (p : List Nat) : PyData × PyData := if (isNone s.1 || PySem.W.dataLt (encF n (act p R)) s.1) = true then (encF n (act p R), encN p) else s
def best (n : Nat) (R : Nat → Nat → Bool) (l : List (List Nat)) : PyData × PyData := l.foldl (bestStep n R) (.none, .none)
def minF (n : Nat) (R : Nat → Nat → Bool) : PyData := (best n R (perms n)).1
def minN (n : Nat) (R : Nat → Nat → Bool) : PyData := (best n R (perms n)).2
theorem alikeAll_map {α : Type} {f : α → PyData} (h : ∀ a b, PySem.W.alike (f a) (f b) = true) : ∀ l m : List α, PySem.W.alikeAll (l.map f) (m.map f) = true
  | [], m => by simp [PySem.W.alikeAll]
  | a :: l, [] => by simp [PySem.W.alikeAll]
  | a :: l, b :: m => by
    rw [List.map_cons, List.map_cons, PySem.W.alikeAll, h a b, alikeAll_map h l m]
    rfl
theorem alike_iD (a b : Nat) : PySem.W.alike (iD a) (iD b) = true := by simp [PySem.W.alike]
theorem alike_T (l m : List Nat) : PySem.W.alike (encT l) (encT m) = true := by
  unfold encT
  rw [PySem.W.alike]
  exact alikeAll_map alike_iD l m
theorem alike_F (n : Nat) (R S : Nat → Nat → Bool) : PySem.W.alike (encF n R) (encF n S) = true := by
  have e : ∀ R : Nat → Nat → Bool, encF n R = .tuple (((List.range n).map fun i => rowOf n R i).map encT) := fun R => by
    unfold encF
    rw [List.map_map]
    rfl
  rw [e R, e S, PySem.W.alike]
  exact alikeAll_map alike_T _ _
theorem lt_F {n : Nat} {R S : Nat → Nat → Bool} : ltD (encF n R) (encF n S) = .ret (.sh (.bool (PySem.W.dataLt (encF n R) (encF n S)))) := by
  have hd : (encF n R).depth ≤ 64 := Nat.le_trans (ok_encF n R).2.2 (by decide)
  show (if _ then _ else _) = _
  rw [alike_F, show isNone (encF n R) = false from rfl, decide_eq_true hd, if_pos (show (true && (!false && true)) = true from rfl)]
/-- nothing yet, or a form -/
def IsForm (n : Nat) (d : PyData) : Prop := d = .none ∨ ∃ S, d = encF n S
theorem isForm_step {n : Nat} {R : Nat → Nat → Bool} {s : PyData × PyData} {p : List Nat} (h : IsForm n s.1) : IsForm n (bestStep n R s p).1 := by
  unfold bestStep
  split
  · exact .inr ⟨_, rfl⟩
  · exact h
theorem isForm_best {n : Nat} {R : Nat → Nat → Bool} : ∀ (l : List (List Nat)) (s : PyData × PyData), IsForm n s.1 → IsForm n (l.foldl (bestStep n R) s).1
  | [], s, h => h
  | p :: l, s, h => isForm_best l _ (isForm_step h)
noncomputable abbrev FBODY : Dn.Env → T Out := seqD (setD 4 (fzA (cal (calling 2 d_renamed_of) (aC (vA 0) (aC (vA 3) a0))))) (ifD (tOr (tB (bin (isND id) (vD 1) (oA (kA .none)))) (tB (bin ltD (vD 4) (vD 1)))) (parD 1 2 (fzA (vA 4)) (fzA (vA 3))) sNil)
theorem first_step {n : Nat} {R : Nat → Nat → Bool} {s : PyData × PyData} {p : List Nat} {x4 : AV} (hn : n ≤ 6) (hp : Perm n p) (h : IsForm n s.1) :
    FBODY [.sh (encF n R), .sh s.1, .sh s.2, .sh (encN p), x4] = .ret (.nx [.sh (encF n R), .sh (bestStep n R s p).1, .sh (bestStep n R s p).2, .sh (encN p), .sh (encF n (act p R))]) := by
  obtain ⟨a, b⟩ := s
  have e := e_renamed_of (n := n) (R := R) (p := p) (show n ≤ 100000 by omega) hp.names
  rcases h with h | ⟨S, h⟩
  · have h : a = .none := h
    subst h
    have e2 : bestStep n R (.none, b) p = (encF n (act p R), encN p) := if_pos rfl
    rw [e2]
    simp only [FBODY, runD, seqD, ifD, setD, asgD, forD, parD, par3D, setV, extD, appD, ownAt, vD, vA, oA, kA, fzA, bin, tB, tNot, tAnd, tOr, nA, andA, orA, ifA, chA, a0, aC, b0, bC, cal, calK, isA, is2A, slA, o0, oI, ixL, itS, itZ, itE, gN, g0, lamA, xO, sNil, sRet, sEx, sErr, sBk, sCt, sShare, bind_ret, bind_err, slA0, slAp, slAf, slAs, slD0, slDo, slDs, calling, toB, toD, toS, toI, frz, dataA, allS, mkTup, mkLst, itemsL, itemsT, share, share1, tupG, consG, List.append_nil, List.replicate, List.getElem?_cons_zero, List.getElem?_cons_succ, List.cons_append, List.nil_append, Nat.sub_self, List.length_cons, List.length_nil, List.set_cons_zero, List.set_cons_succ, List.foldl_cons, List.foldl_nil, if_true, if_false, ite_true, ite_false, reduceCtorEq, Nat.reduceAdd, Nat.reduceSub, Nat.reduceLeDiff, Bool.not_true, Bool.not_false, Bool.false_eq_true, pick, List.filterMap_cons, List.filterMap_nil, e]
    rfl
  · have h : a = encF n S := h
    subst h
    have e3 : isND id (encF n S) .none = .ret (.sh (.bool false)) := rfl
    have e4 : bestStep n R (encF n S, b) p = if PySem.W.dataLt (encF n (act p R)) (encF n S) = true then (encF n (act p R), encN p) else (encF n S, b) := by
      unfold bestStep
      rw [show isNone (encF n S) = false from rfl, Bool.false_or]
    rw [e4]
    cases hc : PySem.W.dataLt (encF n (act p R)) (encF n S) with
    | true =>
      rw [if_pos rfl]
      simp only [FBODY, runD, seqD, ifD, setD, asgD, forD, parD, par3D, setV, extD, appD, ownAt, vD, vA, oA, kA, fzA, bin, tB, tNot, tAnd, tOr, nA, andA, orA, ifA, chA, a0, aC, b0, bC, cal, calK, isA, is2A, slA, o0, oI, ixL, itS, itZ, itE, gN, g0, lamA, xO, sNil, sRet, sEx, sErr, sBk, sCt, sShare, bind_ret, bind_err, slA0, slAp, slAf, slAs, slD0, slDo, slDs, calling, toB, toD, toS, toI, frz, dataA, allS, mkTup, mkLst, itemsL, itemsT, share, share1, tupG, consG, List.append_nil, List.replicate, List.getElem?_cons_zero, List.getElem?_cons_succ, List.cons_append, List.nil_append, Nat.sub_self, List.length_cons, List.length_nil, List.set_cons_zero, List.set_cons_succ, List.foldl_cons, List.foldl_nil, if_true, if_false, ite_true, ite_false, reduceCtorEq, Nat.reduceAdd, Nat.reduceSub, Nat.reduceLeDiff, Bool.not_true, Bool.not_false, Bool.false_eq_true, pick, List.filterMap_cons, List.filterMap_nil, e, e3, lt_F, hc]
    | false =>
      rw [if_neg (by simp)]
      simp only [FBODY, runD, seqD, ifD, setD, asgD, forD, parD, par3D, setV, extD, appD, ownAt, vD, vA, oA, kA, fzA, bin, tB, tNot, tAnd, tOr, nA, andA, orA, ifA, chA, a0, aC, b0, bC, cal, calK, isA, is2A, slA, o0, oI, ixL, itS, itZ, itE, gN, g0, lamA, xO, sNil, sRet, sEx, sErr, sBk, sCt, sShare, bind_ret, bind_err, slA0, slAp, slAf, slAs, slD0, slDo, slDs, calling, toB, toD, toS, toI, frz, dataA, allS, mkTup, mkLst, itemsL, itemsT, share, share1, tupG, consG, List.append_nil, List.replicate, List.getElem?_cons_zero, List.getElem?_cons_succ, List.cons_append, List.nil_append, Nat.sub_self, List.length_cons, List.length_nil, List.set_cons_zero, List.set_cons_succ, List.foldl_cons, List.foldl_nil, if_true, if_false, ite_true, ite_false, reduceCtorEq, Nat.reduceAdd, Nat.reduceSub, Nat.reduceLeDiff, Bool.not_true, Bool.not_false, Bool.false_eq_true, pick, List.filterMap_cons, List.filterMap_nil, e, e3, lt_F, hc]
theorem e_first_of {n : Nat} {R : Nat → Nat → Bool} (hn : n ≤ 6) : d_first_of [.sh (encF n R)] = .ret (.sh (.tuple [minF n R, minN n R])) := by
  obtain ⟨ρ', h1, x3, x4, rfl⟩ := forI (v := 3) (body := FBODY) (e := encN) (fun pre ρ => ∃ x3 x4, ρ = [.sh (encF n R), .sh (best n R pre).1, .sh (best n R pre).2, x3, x4]) (perms n) [.sh (encF n R), .sh .none, .sh .none, .no, .no] ⟨_, _, rfl⟩ (by
    rintro pre p suf _ e ⟨x3, x4, rfl⟩
    have hp : Perm n p := mem_perms.mp (by rw [e]; simp)
    refine ⟨_, first_step (s := best n R pre) hn hp (isForm_best pre _ (.inl rfl)), ?_⟩
    have e2 : best n R (pre ++ [p]) = bestStep n R (best n R pre) p := by
      unfold best
      rw [List.foldl_append]
      rfl
    rw [e2]
    exact ⟨_, _, rfl⟩)
  rw [q_first_of]
  unfold runD b_first_of
  show (((((((lenD [encF n R]).bind fun a => T.ret [frz a]).bind (calling 1 d_all_names)).bind toS).bind itemsD).bind fun ds => forItems (gN 3) FBODY ds [.sh (encF n R), .sh .none, .sh .none, .no, .no]).bind _).bind _ = _
  rw [len_F]
  show (((((d_all_names [.sh (iD n)]).bind toS).bind itemsD).bind fun ds => forItems (gN 3) FBODY ds [.sh (encF n R), .sh .none, .sh .none, .no, .no]).bind _).bind _ = _
  rw [e_all_names hn]
  show (((forItems (gN 3) FBODY ((perms n).map encN) [.sh (encF n R), .sh .none, .sh .none, .no, .no]).bind _).bind _ : T AV) = _
  rw [h1]
  rfl
theorem e_form_of {n : Nat} {R : Nat → Nat → Bool} (hn : n ≤ 6) : d_form_of [.sh (encF n R)] = .ret (.sh (minF n R)) := by
  have e : ixD (.tuple [minF n R, minN n R]) (.int 0) = .ret (.sh (minF n R)) := rfl
  simp only [q_form_of, b_form_of, runD, seqD, ifD, setD, asgD, forD, parD, par3D, setV, extD, appD, ownAt, vD, vA, oA, kA, fzA, bin, tB, tNot, tAnd, tOr, nA, andA, orA, ifA, chA, a0, aC, b0, bC, cal, calK, isA, is2A, slA, o0, oI, ixL, itS, itZ, itE, gN, g0, lamA, xO, sNil, sRet, sEx, sErr, sBk, sCt, sShare, bind_ret, bind_err, slA0, slAp, slAf, slAs, slD0, slDo, slDs, calling, toB, toD, toS, toI, frz, dataA, allS, mkTup, mkLst, itemsL, itemsT, share, share1, tupG, consG, List.append_nil, List.replicate, List.getElem?_cons_zero, List.getElem?_cons_succ, List.cons_append, List.nil_append, Nat.sub_self, List.length_cons, List.length_nil, List.set_cons_zero, List.set_cons_succ, List.foldl_cons, List.foldl_nil, if_true, if_false, ite_true, ite_false, reduceCtorEq, Nat.reduceAdd, Nat.reduceSub, Nat.reduceLeDiff, Bool.not_true, Bool.not_false, Bool.false_eq_true, pick, List.filterMap_cons, List.filterMap_nil, e_first_of hn, e]
/-! ### .. by the law -/
theorem perm_id (n : Nat) : Perm n (List.range n) := ⟨List.length_range, fun a h => List.mem_range.mp h, List.nodup_range⟩
theorem fold_min {n : Nat} {R : Nat → Nat → Bool} : ∀ (l : List (List Nat)) (s : PyData × PyData), (∃ S, s.1 = encF n S) → (l.foldl (bestStep n R) s).1 = (l.map fun p => encF n (act p R)).foldl (fun a y => if PySem.W.dataLt y a then y else a) s.1
  | [], s, _ => rfl
  | p :: l, s, ⟨S, hs⟩ => by
    have e : (bestStep n R s p).1 = if PySem.W.dataLt (encF n (act p R)) s.1 = true then encF n (act p R) else s.1 := by
      unfold bestStep
      rw [show isNone s.1 = false by rw [hs]; rfl, Bool.false_or]
      split <;> rfl
    rw [List.foldl_cons, List.map_cons, List.foldl_cons, fold_min l _ (by rw [e]; split; exact ⟨_, rfl⟩; exact ⟨S, hs⟩), e]
theorem minD_F {n : Nat} {R : Nat → Nat → Bool} : ∃ d ds, (perms n).map (fun p => encF n (act p R)) = d :: ds ∧ PySem.W.minD d ds = minF n R := by
  cases h : perms n with
  | nil =>
    have := mem_perms.mpr (perm_id n)
    rw [h] at this
    cases this
  | cons p l =>
    refine ⟨_, _, List.map_cons, ?_⟩
    unfold minF best
    rw [h, List.foldl_cons, fold_min l _ ⟨act p R, rfl⟩]
    rfl
theorem e__law_first {n : Nat} {R : Nat → Nat → Bool} (hn : n ≤ 6) : d__law_first [.sh (encF n R)] = .ret (.sh (minF n R)) := by
  have hl : lcD [1] (itS (cal (calling 1 d__law_all_names) (aC (cal lenD (bC (vD 0) b0)) a0))) (gN 1) lcTest0 (cal (calling 2 d__law_renamed) (aC (vA 0) (aC (vA 1) a0))) [.sh (encF n R), .no] = .ret (.own ((perms n).map fun p => encF n (act p R))) := by
    refine lcD_eq (ds := (perms n).map encN) ?_ rfl (lcN1 (e := encN) _ _ fun p hp => ?_)
    · simp only [runD, seqD, ifD, setD, asgD, forD, parD, par3D, setV, extD, appD, ownAt, vD, vA, oA, kA, fzA, bin, tB, tNot, tAnd, tOr, nA, andA, orA, ifA, chA, a0, aC, b0, bC, cal, calK, isA, is2A, slA, o0, oI, ixL, itS, itZ, itE, gN, g0, lamA, xO, sNil, sRet, sEx, sErr, sBk, sCt, sShare, bind_ret, bind_err, slA0, slAp, slAf, slAs, slD0, slDo, slDs, calling, toB, toD, toS, toI, frz, dataA, allS, mkTup, mkLst, itemsL, itemsT, share, share1, tupG, consG, List.append_nil, List.replicate, List.getElem?_cons_zero, List.getElem?_cons_succ, List.cons_append, List.nil_append, Nat.sub_self, List.length_cons, List.length_nil, List.set_cons_zero, List.set_cons_succ, List.foldl_cons, List.foldl_nil, if_true, if_false, ite_true, ite_false, reduceCtorEq, Nat.reduceAdd, Nat.reduceSub, Nat.reduceLeDiff, Bool.not_true, Bool.not_false, Bool.false_eq_true, pick, List.filterMap_cons, List.filterMap_nil, len_F, e__law_all_names hn]
    · simp only [runD, seqD, ifD, setD, asgD, forD, parD, par3D, setV, extD, appD, ownAt, vD, vA, oA, kA, fzA, bin, tB, tNot, tAnd, tOr, nA, andA, orA, ifA, chA, a0, aC, b0, bC, cal, calK, isA, is2A, slA, o0, oI, ixL, itS, itZ, itE, gN, g0, lamA, xO, sNil, sRet, sEx, sErr, sBk, sCt, sShare, bind_ret, bind_err, slA0, slAp, slAf, slAs, slD0, slDo, slDs, calling, toB, toD, toS, toI, frz, dataA, allS, mkTup, mkLst, itemsL, itemsT, share, share1, tupG, consG, List.append_nil, List.replicate, List.getElem?_cons_zero, List.getElem?_cons_succ, List.cons_append, List.nil_append, Nat.sub_self, List.length_cons, List.length_nil, List.set_cons_zero, List.set_cons_succ, List.foldl_cons, List.foldl_nil, if_true, if_false, ite_true, ite_false, reduceCtorEq, Nat.reduceAdd, Nat.reduceSub, Nat.reduceLeDiff, Bool.not_true, Bool.not_false, Bool.false_eq_true, pick, List.filterMap_cons, List.filterMap_nil, e__law_renamed (R := R) (mem_perms.mp hp)]
  have hb : bestD PySem.W.minD [.list ((perms n).map fun p => encF n (act p R))] = .ret (.sh (minF n R)) := by
    have all : ∀ x ∈ (perms n).map (fun p => encF n (act p R)), ∃ S, x = encF n S := fun x hx => by
      obtain ⟨p, _, rfl⟩ := List.mem_map.mp hx
      exact ⟨_, rfl⟩
    obtain ⟨d, ds, e1, e2⟩ := minD_F (n := n) (R := R)
    rw [e1] at all ⊢
    have k1 : alikeB (d :: ds) = true := by
      unfold alikeB
      rw [List.all_eq_true]
      intro x hx
      rw [List.all_eq_true]
      intro y hy
      obtain ⟨S, rfl⟩ := all x hx
      obtain ⟨S', rfl⟩ := all y hy
      exact alike_F n S S'
    have k2 : ((d :: ds).all fun e => !isNone e) = true := by
      rw [List.all_eq_true]
      intro x hx
      obtain ⟨S, rfl⟩ := all x hx
      rfl
    have k3 : PyData.canLayAll0 (d :: ds) = true := canLayAll_iff.mpr fun x hx => by
      obtain ⟨S, rfl⟩ := all x hx
      exact (ok_encF n S).2.1
    have k4 : PyData.depthAll (d :: ds) ≤ 64 := depthAll_le.mpr fun x hx => by
      obtain ⟨S, rfl⟩ := all x hx
      exact Nat.le_trans (ok_encF n S).2.2 (by decide)
    show (if _ then _ else _) = _
    rw [k1, k2, k3, decide_eq_true k4, if_pos (show ((true && true) && (true && true)) = true from rfl), e2]
  simp only [q__law_first, b__law_first, runD, seqD, ifD, setD, asgD, forD, parD, par3D, setV, extD, appD, ownAt, vD, vA, oA, kA, fzA, bin, tB, tNot, tAnd, tOr, nA, andA, orA, ifA, chA, a0, aC, b0, bC, cal, calK, isA, is2A, slA, o0, oI, ixL, itS, itZ, itE, gN, g0, lamA, xO, sNil, sRet, sEx, sErr, sBk, sCt, sShare, bind_ret, bind_err, slA0, slAp, slAf, slAs, slD0, slDo, slDs, calling, toB, toD, toS, toI, frz, dataA, allS, mkTup, mkLst, itemsL, itemsT, share, share1, tupG, consG, List.append_nil, List.replicate, List.getElem?_cons_zero, List.getElem?_cons_succ, List.cons_append, List.nil_append, Nat.sub_self, List.length_cons, List.length_nil, List.set_cons_zero, List.set_cons_succ, List.foldl_cons, List.foldl_nil, if_true, if_false, ite_true, ite_false, reduceCtorEq, Nat.reduceAdd, Nat.reduceSub, Nat.reduceLeDiff, Bool.not_true, Bool.not_false, Bool.false_eq_true, pick, List.filterMap_cons, List.filterMap_nil, hl, hb]
end Mf
end
section
set_option Elab.async false
set_option linter.all false
set_option autoImplicit false
set_option maxRecDepth 100000
/-! M9: the least form; renaming one behind another. -/
namespace Mf
open PySem Dn Wk

/-! ### order -/
abbrev lt (x y : PyData) : Bool := PySem.W.dataLt x y
theorem lt_irr (x : PyData) : lt x x = false := PyProof.Rows.lex_irrefl (O := PyProof.Rows.itemOrd) _
theorem lt_tr {x y z : PyData} (h1 : lt x y = true) (h2 : lt y z = true) : lt x z = true := PyProof.Rows.lex_trans (O := PyProof.Rows.itemOrd) _ _ _ h1 h2
theorem lt_tot {x y : PyData} (ha : PySem.W.alike x y = true) (h1 : lt x y = false) (h2 : lt y x = false) : PyData.eqv x y = true := by
  have e : PySem.W.keyToks x = PySem.W.keyToks y := PyProof.Rows.lex_total (O := PyProof.Rows.itemOrd) _ _ h1 h2
  cases h : PyData.eqv x y with
  | true => rfl
  | false =>
    have q := (PySem.W.toks_eqv x y ha).2 h [.inl 0] [.inl 1]
    rw [e, PySem.W.lex_pre] at q
    have q2 : PySem.W.dataLt x y = true := by
      unfold PySem.W.dataLt
      rw [e]
      rw [← q]
      decide
    have h1 : PySem.W.dataLt x y = false := h1
    rw [h1] at q2
    cases q2
theorem min_mem : ∀ (ds : List PyData) (d : PyData), PySem.W.minD d ds ∈ d :: ds := fun ds d => fold_mem (f := fun a y => PySem.W.dataLt y a) ds d
theorem min_le : ∀ (ds seen : List PyData) (d : PyData), d ∈ seen → (∀ y ∈ seen, lt y d = false) → ∀ y ∈ seen ++ ds, lt y (PySem.W.minD d ds) = false
  | [], seen, d, _, h => by
    rw [List.append_nil]
    exact h
  | z :: ds, seen, d, hd, h => by
    have e : PySem.W.minD d (z :: ds) = PySem.W.minD (if lt z d = true then z else d) ds := rfl
    rw [e]
    have e2 : seen ++ z :: ds = (seen ++ [z]) ++ ds := by simp
    rw [e2]
    refine min_le ds (seen ++ [z]) _ ?_ ?_
    · split
      · simp
      · exact List.mem_append_left _ hd
    · intro y hy
      cases hc : lt z d with
      | true =>
        rw [if_pos rfl]
        rcases List.mem_append.mp hy with hy | hy
        · cases q : lt y z with
          | false => rfl
          | true => exact absurd (lt_tr q hc) (by rw [h y hy]; simp)
        · rw [List.mem_singleton] at hy
          rw [hy]
          exact lt_irr z
      | false =>
        rw [if_neg (by simp)]
        rcases List.mem_append.mp hy with hy | hy
        · exact h y hy
        · rw [List.mem_singleton] at hy
          rw [hy]
          exact hc
/-- the least form is a form, none is less -/
theorem minF_spec (n : Nat) (R : Nat → Nat → Bool) : (∃ p, Perm n p ∧ minF n R = encF n (act p R)) ∧ ∀ p, Perm n p → lt (encF n (act p R)) (minF n R) = false := by
  obtain ⟨d, ds, e1, e2⟩ := minD_F (n := n) (R := R)
  constructor
  · have := min_mem ds d
    rw [e2, ← e1] at this
    obtain ⟨p, hp, e⟩ := List.mem_map.mp this
    exact ⟨p, mem_perms.mp hp, e.symm⟩
  · intro p hp
    have := min_le ds [d] d (by simp) (fun y hy => by rw [List.mem_singleton.mp hy]; exact lt_irr d) (encF n (act p R)) (by
      show _ ∈ d :: ds
      rw [← e1]
      exact List.mem_map.mpr ⟨p, mem_perms.mpr hp, rfl⟩)
    rw [e2] at this
    exact this
/-! ### one behind another -/
def comp (q p : List Nat) : List Nat := q.map fun a => p.getD a 0
theorem comp_perm {n : Nat} {p q : List Nat} (hp : Perm n p) (hq : Perm n q) : Perm n (comp q p) := by
  refine ⟨by unfold comp; rw [List.length_map, hq.len], fun a ha => ?_, ?_⟩
  · obtain ⟨b, hb, rfl⟩ := List.mem_map.mp ha
    exact hp.names.lt (hq.lt b hb)
  · exact nodup_map_on (fun a ha b hb e => getD_inj hp (hq.lt a ha) (hq.lt b hb) e) hq.nd
theorem comp_get {n : Nat} {p q : List Nat} (hq : Perm n q) {i : Nat} (hi : i < n) : (comp q p).getD i 0 = p.getD (q.getD i 0) 0 := by
  have hl : i < q.length := by rw [hq.len]; exact hi
  unfold comp
  rw [List.getD_eq_getElem?_getD, List.getElem?_map, List.getElem?_eq_getElem hl, List.getD_eq_getElem?_getD (l := q), List.getElem?_eq_getElem hl]
  rfl
theorem act_comp {n : Nat} {p q : List Nat} {R : Nat → Nat → Bool} (hq : Perm n q) : eqF n (act q (act p R)) (act (comp q p) R) = true := eqF_iff.mpr fun i hi j hj => by
  unfold act
  rw [comp_get hq hi, comp_get hq hj]
noncomputable def inv (n : Nat) (p : List Nat) : List Nat := (List.range n).map (plc n p)
theorem inv_perm {n : Nat} {p : List Nat} (h : Perm n p) : Perm n (inv n p) := by
  refine ⟨by unfold inv; rw [List.length_map, List.length_range], fun a ha => ?_, ?_⟩
  · obtain ⟨b, hb, rfl⟩ := List.mem_map.mp ha
    exact (plc_spec h (List.mem_range.mp hb)).1
  · refine nodup_map_on (fun a ha b hb e => ?_) List.nodup_range
    rw [← (plc_spec h (List.mem_range.mp ha)).2.1, ← (plc_spec h (List.mem_range.mp hb)).2.1, e]
theorem inv_get {n : Nat} {p : List Nat} (h : Perm n p) {i : Nat} (hi : i < n) : p.getD ((inv n p).getD i 0) 0 = i := by
  have e : (inv n p).getD i 0 = plc n p i := by
    unfold inv
    rw [List.getD_eq_getElem?_getD, List.getElem?_map, List.getElem?_range hi]
    rfl
  rw [e]
  exact (plc_spec h hi).2.1
theorem eqF_symm {n : Nat} {R S : Nat → Nat → Bool} (h : eqF n R S = true) : eqF n S R = true := eqF_iff.mpr fun i hi j hj => (eqF_iff.mp h i hi j hj).symm
theorem eqF_trans {n : Nat} {R S U : Nat → Nat → Bool} (h : eqF n R S = true) (h2 : eqF n S U = true) : eqF n R U = true := eqF_iff.mpr fun i hi j hj => (eqF_iff.mp h i hi j hj).trans (eqF_iff.mp h2 i hi j hj)
theorem eqF_act {n : Nat} {R S : Nat → Nat → Bool} {p : List Nat} (hp : Perm n p) (h : eqF n R S = true) : eqF n (act p R) (act p S) = true := eqF_iff.mpr fun i hi j hj => eqF_iff.mp h _ (hp.names.lt hi) _ (hp.names.lt hj)
theorem eqF_inv {n : Nat} {R S : Nat → Nat → Bool} {p : List Nat} (hp : Perm n p) (h : eqF n (act p R) S = true) : eqF n (act (inv n p) S) R = true := by
  refine eqF_iff.mpr fun i hi j hj => ?_
  have q := eqF_iff.mp h _ ((inv_perm hp).names.lt hi) _ ((inv_perm hp).names.lt hj)
  unfold act at q ⊢
  rw [← q, inv_get hp hi, inv_get hp hj]
/-- alike -/
def Alike (n : Nat) (R S : Nat → Nat → Bool) : Prop := ∃ p, Perm n p ∧ eqF n (act p R) S = true
theorem Alike.symm {n : Nat} {R S : Nat → Nat → Bool} (h : Alike n R S) : Alike n S R := by
  obtain ⟨p, hp, e⟩ := h
  exact ⟨inv n p, inv_perm hp, eqF_inv hp e⟩
theorem Alike.trans {n : Nat} {R S U : Nat → Nat → Bool} (h : Alike n R S) (h2 : Alike n S U) : Alike n R U := by
  obtain ⟨p, hp, e⟩ := h
  obtain ⟨q, hq, e2⟩ := h2
  exact ⟨comp q p, comp_perm hp hq, eqF_trans (eqF_symm (act_comp hq)) (eqF_trans (eqF_act hq e) e2)⟩
theorem same_iff {n : Nat} {R S : Nat → Nat → Bool} : same n R S ≠ [] ↔ Alike n R S := by
  constructor
  · intro h
    obtain ⟨p, hp⟩ := List.exists_mem_of_ne_nil _ h
    unfold same at hp
    rw [List.mem_filter] at hp
    exact ⟨p, mem_perms.mp hp.1, hp.2⟩
  · rintro ⟨p, hp, e⟩ h
    have : p ∈ same n R S := List.mem_filter.mpr ⟨mem_perms.mpr hp, e⟩
    rw [h] at this
    cases this
theorem minF_le {n : Nat} {R S : Nat → Nat → Bool} (h : Alike n R S) : lt (minF n S) (minF n R) = false := by
  obtain ⟨⟨q, hq, e⟩, _⟩ := minF_spec n S
  obtain ⟨p, hp, e2⟩ := h
  have e3 : encF n (act q S) = encF n (act (comp q p) R) := encF_iff.mpr (eqF_trans (eqF_act hq (eqF_symm e2)) (act_comp hq))
  rw [e, e3]
  exact (minF_spec n R).2 _ (comp_perm hp hq)
theorem minF_iff {n : Nat} {R S : Nat → Nat → Bool} : minF n R = minF n S ↔ Alike n R S := by
  obtain ⟨⟨p, hp, e⟩, _⟩ := minF_spec n R
  obtain ⟨⟨q, hq, e2⟩, _⟩ := minF_spec n S
  constructor
  · intro h
    rw [e, e2, encF_iff] at h
    exact Alike.trans ⟨p, hp, h⟩ (Alike.symm ⟨q, hq, eqF_refl _ _⟩)
  · intro h
    have h1 := minF_le h
    have h2 := minF_le h.symm
    rw [e, e2] at h1 h2 ⊢
    exact encF_iff.mpr (by
      have := (eqv_ok (ok_encF n (act p R)) (ok_encF n (act q S))).mp (lt_tot (alike_F n _ _) h2 h1)
      exact encF_iff.mp this)
end Mf
end
section
set_option Elab.async false
set_option linter.all false
set_option autoImplicit false
set_option maxRecDepth 100000
/-! P1: draws from a pot. -/
namespace Dn
open PySem

theorem gt_int {i j : Int} : gtD (.int i) (.int j) = .ret (.sh (.bool (decide (j < i)))) := rfl
theorem add_int {i j : Int} : addD (.int i) (.int j) = .ret (.sh (.int (i + j))) := rfl
theorem mod_int {i j : Int} (h : j ≠ 0) : modD (.int i) (.int j) = .ret (.sh (.int (i.fmod j))) := if_pos h
theorem mul_int {i j : Int} (h : (-(2 ^ 64) < i ∧ i < 2 ^ 64) ∨ (-(2 ^ 64) < j ∧ j < 2 ^ 64)) : mulD (.int i) (.int j) = .ret (.sh (.int (i * j))) := if_pos h
theorem fdiv_int {i j : Int} (h : j ≠ 0 ∧ j.natAbs < 1073741824) : fdivD (.int i) (.int j) = .ret (.sh (.int (i.fdiv j))) := if_pos h
theorem intOf_int {i : Int} : intOfD [.int i] = .ret (.sh (.int i)) := rfl
theorem pot0 {x y : AV} : potRead 0 0 [.pot, x, y] = .draw BIG fun d => .ret (.sh (PyData.int (d : Nat))) := rfl
theorem pot1 {x y : AV} : potRead 0 1 [.pot, x, y] = .draw LIM fun d => .ret (.sh (PyData.int (d : Nat))) := rfl
theorem pset0 {x y : AV} {v : Int} (h : 0 ≤ v ∧ v.toNat < BIG) : potG 0 0 (.int v) [.pot, x, y] = .ret [.pot, x, y] := if_pos ⟨h.1, .inl ⟨rfl, h.2⟩⟩
theorem pset1 {x y : AV} {v : Int} (h : 0 ≤ v ∧ v.toNat < LIM) : potG 0 1 (.int v) [.pot, x, y] = .ret [.pot, x, y] := if_pos ⟨h.1, .inr ⟨rfl, h.2⟩⟩
theorem divmod_int {i j : Int} (h : 0 < j ∧ j < 1073741824) : divmodD [.int i, .int j] = .ret (.sh (.tuple [.int (i / j), .int (i % j)])) := if_pos h
theorem fm (i j : Int) (h : 0 < j) : 0 ≤ i.fmod j ∧ i.fmod j < j := ⟨Int.fmod_nonneg_of_pos i h, Int.fmod_lt_of_pos i h⟩
theorem hold_draw {α : Type} {n : Nat} {k : Nat → T α} {p : α → Prop} (h0 : 0 < n) (h : ∀ d, d < n → Hold (k d) p) : Hold (.draw n k) p := ⟨h0, h⟩
theorem tup2 {g : List PyData → Env → T Env} {x y : PyData} {ρ : Env} : tupG 2 g (.tuple [x, y]) ρ = g [x, y] ρ := rfl
/-- what _law_draw does, its numbers put in -/
noncomputable def drawBody (A B M M2 C : Int) : Env → T Out := seqD (ifD (tB (bin gtD (oA (potRead 0 0)) (oA (kA (.int 0))))) (seqD (asgD (tupG 2 (consG (potG 0 0) (consG (gN 2) (g0)))) (cal divmodD (bC (oA (potRead 0 0)) (bC (vD 1) (b0))))) (sRet (vA 2))) (sNil))
  (seqD (asgD (potG 0 1) (bin modD (oA (cal intOfD (bC (oA (bin addD (oA (bin mulD (oA (potRead 0 1)) (oA (kA (.int A))))) (oA (kA (.int B))))) (b0)))) (oA (kA (.int M))))) (sRet (bin modD (oA (cal intOfD (bC (oA (bin fdivD (oA (bin modD (oA (cal intOfD (bC (oA (bin mulD (oA (potRead 0 1)) (oA (potRead 0 1)))) (b0)))) (oA (kA (.int M2))))) (oA (kA (.int C))))) (b0)))) (vD 1))))
theorem draw_gen {A B M M2 C : Int} {n : Nat} {p : AV → Prop} (hA : -(2 ^ 64) < A ∧ A < 2 ^ 64) (hM : 0 < M) (hM' : M < 2147483648) (hM2 : M2 ≠ 0) (hC : C ≠ 0 ∧ C.natAbs < 1073741824) (h0 : 0 < n) (h1 : n < 1073741824) (hp : ∀ d : Nat, d < n → p (.sh (.int d))) :
    Hold (runD 2 3 (drawBody A B M M2 C) [.pot, .sh (.int n)]) p := by
  have fin : ∀ i : Int, p (.sh (.int (i.fmod (n : Int)))) := fun i => by
    obtain ⟨a, b⟩ := fm i (n : Int) (by omega)
    have := hp (i.fmod (n : Int)).toNat (by omega)
    rwa [Int.toNat_of_nonneg a] at this
  unfold runD drawBody
  simp only [runD, seqD, ifD, setD, asgD, forD, parD, par3D, setV, extD, appD, ownAt, vD, vA, oA, kA, fzA, bin, tB, tNot, tAnd, tOr, nA, andA, orA, ifA, chA, a0, aC, b0, bC, cal, calK, isA, is2A, slA, o0, oI, ixL, itS, itZ, itE, gN, g0, lamA, xO, sNil, sRet, sEx, sErr, sBk, sCt, sShare, bind_ret, bind_err, slA0, slAp, slAf, slAs, slD0, slDo, slDs, calling, toB, toD, toS, toI, frz, dataA, allS, mkTup, mkLst, itemsL, itemsT, share, share1, tupG, consG, List.append_nil, List.replicate, List.getElem?_cons_zero, List.getElem?_cons_succ, List.cons_append, List.nil_append, Nat.sub_self, List.length_cons, List.length_nil, List.set_cons_zero, List.set_cons_succ, List.foldl_cons, List.foldl_nil, if_true, if_false, ite_true, ite_false, reduceCtorEq, Nat.reduceAdd, Nat.reduceSub, Nat.reduceLeDiff, Bool.not_true, Bool.not_false, Bool.false_eq_true, pick, List.filterMap_cons, List.filterMap_nil, pot0, bind_draw, gt_int]
  refine hold_draw BIG_pos (fun d hd => ?_)
  by_cases hc : (0 : Int) < (d : Int)
  · simp only [hc, decide_true, runD, seqD, ifD, setD, asgD, forD, parD, par3D, setV, extD, appD, ownAt, vD, vA, oA, kA, fzA, bin, tB, tNot, tAnd, tOr, nA, andA, orA, ifA, chA, a0, aC, b0, bC, cal, calK, isA, is2A, slA, o0, oI, ixL, itS, itZ, itE, gN, g0, lamA, xO, sNil, sRet, sEx, sErr, sBk, sCt, sShare, bind_ret, bind_err, slA0, slAp, slAf, slAs, slD0, slDo, slDs, calling, toB, toD, toS, toI, frz, dataA, allS, mkTup, mkLst, itemsL, itemsT, share, share1, tupG, consG, List.append_nil, List.replicate, List.getElem?_cons_zero, List.getElem?_cons_succ, List.cons_append, List.nil_append, Nat.sub_self, List.length_cons, List.length_nil, List.set_cons_zero, List.set_cons_succ, List.foldl_cons, List.foldl_nil, if_true, if_false, ite_true, ite_false, reduceCtorEq, Nat.reduceAdd, Nat.reduceSub, Nat.reduceLeDiff, Bool.not_true, Bool.not_false, Bool.false_eq_true, pick, List.filterMap_cons, List.filterMap_nil, pot0, bind_draw]
    refine hold_draw BIG_pos (fun d2 hd2 => ?_)
    have q0 : (0 : Int) ≤ (d2 : Int) / (n : Int) := Int.ediv_nonneg (by omega) (by omega)
    have q1 : ((d2 : Int) / (n : Int)).toNat < BIG := by
      have : (d2 : Int) / (n : Int) = ((d2 / n : Nat) : Int) := by simp
      rw [this, Int.toNat_natCast]
      exact Nat.lt_of_le_of_lt (Nat.div_le_self _ _) hd2
    have e : (d2 : Int) % (n : Int) = ((d2 % n : Nat) : Int) := by simp
    simp only [divmod_int (i := (d2 : Int)) (j := (n : Int)) ⟨by omega, by omega⟩, runD, seqD, ifD, setD, asgD, forD, parD, par3D, setV, extD, appD, ownAt, vD, vA, oA, kA, fzA, bin, tB, tNot, tAnd, tOr, nA, andA, orA, ifA, chA, a0, aC, b0, bC, cal, calK, isA, is2A, slA, o0, oI, ixL, itS, itZ, itE, gN, g0, lamA, xO, sNil, sRet, sEx, sErr, sBk, sCt, sShare, bind_ret, bind_err, slA0, slAp, slAf, slAs, slD0, slDo, slDs, calling, toB, toD, toS, toI, frz, dataA, allS, mkTup, mkLst, itemsL, itemsT, share, share1, tupG, consG, List.append_nil, List.replicate, List.getElem?_cons_zero, List.getElem?_cons_succ, List.cons_append, List.nil_append, Nat.sub_self, List.length_cons, List.length_nil, List.set_cons_zero, List.set_cons_succ, List.foldl_cons, List.foldl_nil, if_true, if_false, ite_true, ite_false, reduceCtorEq, Nat.reduceAdd, Nat.reduceSub, Nat.reduceLeDiff, Bool.not_true, Bool.not_false, Bool.false_eq_true, pick, List.filterMap_cons, List.filterMap_nil, tup2, pset0 ⟨q0, q1⟩, e]
    exact hp _ (Nat.mod_lt _ h0)
  · simp only [hc, decide_false, runD, seqD, ifD, setD, asgD, forD, parD, par3D, setV, extD, appD, ownAt, vD, vA, oA, kA, fzA, bin, tB, tNot, tAnd, tOr, nA, andA, orA, ifA, chA, a0, aC, b0, bC, cal, calK, isA, is2A, slA, o0, oI, ixL, itS, itZ, itE, gN, g0, lamA, xO, sNil, sRet, sEx, sErr, sBk, sCt, sShare, bind_ret, bind_err, slA0, slAp, slAf, slAs, slD0, slDo, slDs, calling, toB, toD, toS, toI, frz, dataA, allS, mkTup, mkLst, itemsL, itemsT, share, share1, tupG, consG, List.append_nil, List.replicate, List.getElem?_cons_zero, List.getElem?_cons_succ, List.cons_append, List.nil_append, Nat.sub_self, List.length_cons, List.length_nil, List.set_cons_zero, List.set_cons_succ, List.foldl_cons, List.foldl_nil, if_true, if_false, ite_true, ite_false, reduceCtorEq, Nat.reduceAdd, Nat.reduceSub, Nat.reduceLeDiff, Bool.not_true, Bool.not_false, Bool.false_eq_true, pick, List.filterMap_cons, List.filterMap_nil, pot1, bind_draw]
    refine hold_draw LIM_pos (fun d2 hd2 => ?_)
    have hM0 : M ≠ 0 := by omega
    simp only [mul_int (i := (d2 : Int)) (j := A) (.inr hA), runD, seqD, ifD, setD, asgD, forD, parD, par3D, setV, extD, appD, ownAt, vD, vA, oA, kA, fzA, bin, tB, tNot, tAnd, tOr, nA, andA, orA, ifA, chA, a0, aC, b0, bC, cal, calK, isA, is2A, slA, o0, oI, ixL, itS, itZ, itE, gN, g0, lamA, xO, sNil, sRet, sEx, sErr, sBk, sCt, sShare, bind_ret, bind_err, slA0, slAp, slAf, slAs, slD0, slDo, slDs, calling, toB, toD, toS, toI, frz, dataA, allS, mkTup, mkLst, itemsL, itemsT, share, share1, tupG, consG, List.append_nil, List.replicate, List.getElem?_cons_zero, List.getElem?_cons_succ, List.cons_append, List.nil_append, Nat.sub_self, List.length_cons, List.length_nil, List.set_cons_zero, List.set_cons_succ, List.foldl_cons, List.foldl_nil, if_true, if_false, ite_true, ite_false, reduceCtorEq, Nat.reduceAdd, Nat.reduceSub, Nat.reduceLeDiff, Bool.not_true, Bool.not_false, Bool.false_eq_true, pick, List.filterMap_cons, List.filterMap_nil, add_int, intOf_int, mod_int hM0]
    obtain ⟨a, b⟩ := fm ((d2 : Int) * A + B) M hM
    have hl : (((d2 : Int) * A + B).fmod M).toNat < LIM := by
      rw [LIM_eq]
      omega
    simp only [pset1 ⟨a, hl⟩, runD, seqD, ifD, setD, asgD, forD, parD, par3D, setV, extD, appD, ownAt, vD, vA, oA, kA, fzA, bin, tB, tNot, tAnd, tOr, nA, andA, orA, ifA, chA, a0, aC, b0, bC, cal, calK, isA, is2A, slA, o0, oI, ixL, itS, itZ, itE, gN, g0, lamA, xO, sNil, sRet, sEx, sErr, sBk, sCt, sShare, bind_ret, bind_err, slA0, slAp, slAf, slAs, slD0, slDo, slDs, calling, toB, toD, toS, toI, frz, dataA, allS, mkTup, mkLst, itemsL, itemsT, share, share1, tupG, consG, List.append_nil, List.replicate, List.getElem?_cons_zero, List.getElem?_cons_succ, List.cons_append, List.nil_append, Nat.sub_self, List.length_cons, List.length_nil, List.set_cons_zero, List.set_cons_succ, List.foldl_cons, List.foldl_nil, if_true, if_false, ite_true, ite_false, reduceCtorEq, Nat.reduceAdd, Nat.reduceSub, Nat.reduceLeDiff, Bool.not_true, Bool.not_false, Bool.false_eq_true, pick, List.filterMap_cons, List.filterMap_nil, pot1, bind_draw]
    refine hold_draw LIM_pos (fun d3 hd3 => ?_)
    refine hold_draw LIM_pos (fun d4 hd4 => ?_)
    rw [LIM_eq] at hd3 hd4
    have hn : (n : Int) ≠ 0 := by omega
    simp only [mul_int (i := (d3 : Int)) (j := (d4 : Int)) (.inl ⟨by omega, by omega⟩), runD, seqD, ifD, setD, asgD, forD, parD, par3D, setV, extD, appD, ownAt, vD, vA, oA, kA, fzA, bin, tB, tNot, tAnd, tOr, nA, andA, orA, ifA, chA, a0, aC, b0, bC, cal, calK, isA, is2A, slA, o0, oI, ixL, itS, itZ, itE, gN, g0, lamA, xO, sNil, sRet, sEx, sErr, sBk, sCt, sShare, bind_ret, bind_err, slA0, slAp, slAf, slAs, slD0, slDo, slDs, calling, toB, toD, toS, toI, frz, dataA, allS, mkTup, mkLst, itemsL, itemsT, share, share1, tupG, consG, List.append_nil, List.replicate, List.getElem?_cons_zero, List.getElem?_cons_succ, List.cons_append, List.nil_append, Nat.sub_self, List.length_cons, List.length_nil, List.set_cons_zero, List.set_cons_succ, List.foldl_cons, List.foldl_nil, if_true, if_false, ite_true, ite_false, reduceCtorEq, Nat.reduceAdd, Nat.reduceSub, Nat.reduceLeDiff, Bool.not_true, Bool.not_false, Bool.false_eq_true, pick, List.filterMap_cons, List.filterMap_nil, intOf_int, mod_int hM2, fdiv_int hC, mod_int hn]
    exact fin _
end Dn
end
section
set_option Elab.async false
set_option linter.all false
set_option autoImplicit false
set_option maxRecDepth 100000
/-! M10: draws, relations that are drawn. -/
namespace Mf
open PySem Dn Wk

theorem draw_hold {n : Nat} {p : AV → Prop} (h0 : 0 < n) (h1 : n < 1073741824) (hp : ∀ d, d < n → p (.sh (iD d))) : Hold (d__law_draw [.pot, .sh (iD n)]) p := by
  have e : b__law_draw = drawBody 42024 3853 2147483563 2147483549 131 := rfl
  rw [q__law_draw, e]
  exact draw_gen (by omega) (by omega) (by omega) (by omega) ⟨by omega, by omega⟩ h0 h1 hp
/-! ### steps that hold -/
section
variable {f g : Dn.Env → T Out} {e : Dn.Env → T AV} {ρ : Dn.Env} {p : Out → Prop}
theorem hseq (h : Hold (f ρ) fun o => ∃ ρ', o = .nx ρ' ∧ Hold (g ρ') p) : Hold (seqD f g ρ) p := by
  unfold seqD
  exact Hold.bind' (h.mono fun o ⟨ρ', e, h⟩ => by subst e; exact h)
theorem hset {i : Nat} (h : Hold (e ρ) fun av => av ≠ .no ∧ p (.nx (ρ.set i av))) : Hold (setD i e ρ) p := by
  unfold setD
  refine Hold.bind' (h.mono fun av ⟨h1, h2⟩ => ?_)
  cases av with
  | no => exact absurd rfl h1
  | _ => exact h2
theorem hfz {q : AV → Prop} (h : Hold (e ρ) fun av => q (frz av)) : Hold (fzA e ρ) q := Hold.bind' (h.mono fun _ h => h)
theorem hret (h : Hold (e ρ) fun av => p (.rt av)) : Hold (sRet e ρ) p := Hold.bind' (h.mono fun _ h => h)
theorem hrun {n N : Nat} {as : List AV} {q : AV → Prop} (h : Hold (f (as ++ List.replicate (N - n) .no)) fun o => ∃ av, o = .rt av ∧ q av) : Hold (runD n N f as) q := by
  unfold runD
  exact Hold.bind' (h.mono fun o ⟨av, e, h⟩ => by subst e; exact h)
end
/-! ### rows -/
def RowOk (n : Nat) (l : List Nat) : Prop := (∀ a ∈ l, a < n) ∧ l.length ≤ 1000
def RowsOk (n : Nat) (d : PyData) : Prop := ∃ L : List (List Nat), d = .list (L.map encN) ∧ L.length = n ∧ ∀ l ∈ L, RowOk n l
theorem all2_rows {α : Type} {n : Nat} {l : List α} {ys : List PyData} (h : All2 (fun _ y => ∃ r, y = encN r ∧ RowOk n r) l ys) : ∃ L : List (List Nat), ys = L.map encN ∧ L.length = l.length ∧ ∀ r ∈ L, RowOk n r := by
  induction h with
  | nil => exact ⟨[], rfl, rfl, fun r h => absurd h List.not_mem_nil⟩
  | cons h1 _ ih =>
    obtain ⟨r, rfl, hr⟩ := h1
    obtain ⟨L, rfl, h2, h3⟩ := ih
    exact ⟨r :: L, rfl, by rw [List.length_cons, List.length_cons, h2], fun q hq => by
      rcases List.mem_cons.mp hq with rfl | hq
      · exact hr
      · exact h3 q hq⟩
theorem all2_iD {l : List Nat} {ys : List PyData} (h : All2 (fun a y => y = iD a) l ys) : ys = l.map iD := by
  induction h with
  | nil => rfl
  | cons h1 _ ih => rw [h1, ih]; rfl
theorem row_sub {n : Nat} {l : List Nat} (h : l.Sublist (List.range n)) (hn : n ≤ 1000) : RowOk n l := ⟨fun a ha => List.mem_range.mp (h.subset ha), Nat.le_trans h.length_le (by rw [List.length_range]; exact hn)⟩
/-- a row by a test that says something -/
theorem row_hold {n : Nat} {t : Dn.Env → T Bool} {ρ : Dn.Env} (hn : n ≤ 1000) (h2 : slotD ρ 2 = .ret (iD n)) (h6 : [6].all (notOwn ρ) = true) (hl : 6 < ρ.length) (ht : ∀ a, a < n → Hold (t (ρ.set 6 (.sh (iD a)))) fun _ => True) :
    Hold ((lcD [6] (itR (vD 2)) (gN 6) t (vA 6) ρ).bind toS) fun y => ∃ r, y = encN r ∧ RowOk n r := by
  refine Hold.bind' (lcD_hold (itR_n h2 (by omega)) h6 ((lcH (fun a y => y = iD a) (List.range n) (fun a ha => ht a (List.mem_range.mp ha)) fun a _ => ?_).mono ?_))
  · have q : slotA (ρ.set 6 (.sh (iD a))) 6 = .ret (.sh (iD a)) := by
      unfold slotA
      rw [List.getElem?_set_self hl]
    show Hold ((slotA (ρ.set 6 (.sh (iD a))) 6).bind toS) _
    rw [q]
    rfl
  · rintro ys ⟨l', h1, h2⟩
    rw [all2_iD h2]
    exact ⟨l', rfl, row_sub h1 hn⟩
theorem int_iD (a b : Nat) : addD (iD a) (iD b) = .ret (.sh (iD (a + b))) := by
  show T.ret (AV.sh (.int ((a : Int) + (b : Int)))) = _
  rw [← Int.natCast_add]
theorem mod_iD {a n : Nat} (h : 0 < n) : modD (iD a) (iD n) = .ret (.sh (iD (a % n))) := by
  rw [mod_int (by omega), Int.fmod_eq_emod_of_nonneg _ (by omega)]
  show T.ret (AV.sh (.int ((a : Int) % (n : Int)))) = _
  rw [← Int.natCast_emod]
abbrev rho (m n way sc : Nat) (rows : PyData) (x9 : AV) : Dn.Env := [.pot, .sh (iD m), .sh (iD n), .sh (iD way), .sh (iD sc), .sh rows, .no, .no, .no, x9]
/-- the rows are made anew over range(n) -/
theorem rows_range {m n way sc : Nat} {rows : PyData} {x9 x5 : AV} {f : Dn.Env → T AV} (hx : x5 = .sh rows ∨ x5 = .no) (hn : n ≤ 1000) (hf : ∀ a, a < n → Hold ((f [.pot, .sh (iD m), .sh (iD n), .sh (iD way), .sh (iD sc), x5, .no, .sh (iD a), .no, x9]).bind toS) fun y => ∃ r, y = encN r ∧ RowOk n r) :
    Hold (setD 5 (fzA (lcD [7] (itR (vD 2)) (gN 7) lcTest0 f)) [.pot, .sh (iD m), .sh (iD n), .sh (iD way), .sh (iD sc), x5, .no, .no, .no, x9]) fun o => ∃ rows', o = .nx (rho m n way sc rows' x9) ∧ RowsOk n rows' := by
  refine hset (hfz (lcD_hold (itR_n (n := n) rfl (by omega)) rfl ((lcH1 (fun _ y => ∃ r, y = encN r ∧ RowOk n r) (List.range n) fun a ha => hf a (List.mem_range.mp ha)).mono fun ys hys => ?_)))
  obtain ⟨L, rfl, h1, h2⟩ := all2_rows hys
  refine ⟨(by intro z; cases z), _, rfl, L, rfl, by rw [h1, List.length_range], h2⟩
/-! ### the last step: rows to a relation -/
theorem nub_row {n : Nat} {l : List Nat} (h : RowOk n l) : ((nub (l.map fun a : Nat => (a : Int))).mergeSort fun a b => decide (a ≤ b)).map PyData.int = ((List.range n).filter fun j => decide (j ∈ l)).map iD := by
  have e : ((List.range n).filter fun j => decide (j ∈ l)).map iD = (((List.range n).filter fun j => decide (j ∈ l)).map fun a : Nat => (a : Int)).map PyData.int := by
    rw [List.map_map]
    rfl
  rw [e]
  congr 1
  symm
  have up : (((List.range n).filter fun j => decide (j ∈ l)).map fun a : Nat => (a : Int)).Pairwise (· < ·) := by
    refine List.Pairwise.map (R := fun a b : Nat => a < b) _ (fun a b hab => by omega) (List.Pairwise.filter _ List.pairwise_lt_range)
  refine sorted_nub up fun k => ?_
  rw [List.mem_map, decide_eq_true_iff, List.mem_map]
  constructor
  · rintro ⟨a, ha, rfl⟩
    rw [List.mem_filter] at ha
    exact ⟨a, by simpa using ha.2, rfl⟩
  · rintro ⟨a, ha, rfl⟩
    exact ⟨a, List.mem_filter.mpr ⟨List.mem_range.mpr (h.1 a ha), by simpa using ha⟩, rfl⟩
theorem nub_small {n : Nat} {l : List Nat} (h : RowOk n l) (hn : n ≤ 60) : (nub (l.map fun a : Nat => (a : Int))).length < 64 := by
  have q := congrArg List.length (nub_row h)
  rw [List.length_map, List.length_mergeSort, List.length_map] at q
  rw [q]
  have := List.length_filter_le (fun j => decide (j ∈ l)) (List.range n)
  rw [List.length_range] at this
  omega
theorem sortSet_row {n : Nat} {l : List Nat} (h : RowOk n l) (hn : n ≤ 60) : sortSetD (encN l) = .ret (.own (((List.range n).filter fun j => decide (j ∈ l)).map iD)) := by
  show optT (intsOf (l.map iD)) _ = _
  rw [ints_iD]
  show (if _ then _ else _) = _
  rw [if_pos (by rw [List.length_map]; exact h.2), if_pos (nub_small h hn), nub_row h]
theorem map_getD' {β : Type} {n : Nat} {L : List (List Nat)} (f : List Nat → β) (h : L.length = n) : L.map f = (List.range n).map fun i => f (L.getD i []) := by
  apply List.ext_getElem?
  intro i
  rw [List.getElem?_map, List.getElem?_map]
  by_cases hi : i < n
  · rw [List.getElem?_range hi, List.getElem?_eq_getElem (by rw [h]; exact hi)]
    rw [Option.map_some, Option.map_some, List.getD_eq_getElem?_getD, List.getElem?_eq_getElem (by rw [h]; exact hi)]
    rfl
  · rw [List.getElem?_eq_none (by rw [h]; omega), List.getElem?_eq_none (by rw [List.length_range]; omega)]
    rfl
end Mf
end
section
set_option Elab.async false
set_option linter.all false
set_option autoImplicit false
set_option maxRecDepth 100000
/-! M11: the drawn relation. -/
namespace Mf
open PySem Dn Wk

theorem hold_true {α : Type} {m : T α} {p : α → Prop} (h : Hold m p) : Hold m fun _ => True := h.mono fun _ _ => trivial
theorem eq_lit {a : Nat} {i : Int} (b : Nat) (hi : i = (b : Int)) : eqA (iD a) (.int i) = .ret (.sh (.bool (decide (a = b)))) := by
  subst hi
  exact eq_len
/-- if way == k: rows made anew -/
theorem way_step {m n way sc k : Nat} {i : Int} {rows : PyData} {f : Dn.Env → T Out} {x9 : AV} (hi : i = (k : Int)) (hr : RowsOk n rows) (hf : Hold (f (rho m n way sc rows x9)) fun o => ∃ rows' x9', o = .nx (rho m n way sc rows' x9') ∧ RowsOk n rows') :
    Hold (ifD (tB (bin eqA (vD 3) (oA (kA (.int i))))) f sNil (rho m n way sc rows x9)) fun o => ∃ rows' x9', o = .nx (rho m n way sc rows' x9') ∧ RowsOk n rows' := by
  have e : tB (bin eqA (vD 3) (oA (kA (.int i)))) (rho m n way sc rows x9) = .ret (decide (way = k)) := by
    simp only [runD, seqD, ifD, setD, asgD, forD, parD, par3D, setV, extD, appD, ownAt, vD, vA, oA, kA, fzA, bin, tB, tNot, tAnd, tOr, nA, andA, orA, ifA, chA, a0, aC, b0, bC, cal, calK, isA, is2A, slA, o0, oI, ixL, itS, itZ, itE, gN, g0, lamA, xO, sNil, sRet, sEx, sErr, sBk, sCt, sShare, bind_ret, bind_err, slA0, slAp, slAf, slAs, slD0, slDo, slDs, calling, toB, toD, toS, toI, frz, dataA, allS, mkTup, mkLst, itemsL, itemsT, share, share1, tupG, consG, List.append_nil, List.replicate, List.getElem?_cons_zero, List.getElem?_cons_succ, List.cons_append, List.nil_append, Nat.sub_self, List.length_cons, List.length_nil, List.set_cons_zero, List.set_cons_succ, List.foldl_cons, List.foldl_nil, if_true, if_false, ite_true, ite_false, reduceCtorEq, Nat.reduceAdd, Nat.reduceSub, Nat.reduceLeDiff, Bool.not_true, Bool.not_false, Bool.false_eq_true, pick, List.filterMap_cons, List.filterMap_nil, eq_lit k hi]
  cases hc : decide (way = k) with
  | true =>
    rw [if_t (by rw [e, hc])]
    exact hf
  | false =>
    rw [if_f (by rw [e, hc])]
    exact ⟨rows, x9, rfl, hr⟩
theorem draw_int {n : Nat} (h0 : 0 < n) (h1 : n < 1073741824) {p : AV → Prop} {i : Int} (hi : i = (n : Int)) (hp : ∀ d, d < n → p (.sh (iD d))) : Hold (d__law_draw [.pot, .sh (.int i)]) p := by
  subst hi
  exact draw_hold h0 h1 hp
theorem getD_row {n : Nat} {L : List (List Nat)} (hl : L.length = n) (h : ∀ l ∈ L, RowOk n l) {i : Nat} (hi : i < n) : L[i]? = some (L.getD i []) ∧ RowOk n (L.getD i []) := by
  have hi' : i < L.length := by rw [hl]; exact hi
  rw [List.getD_eq_getElem?_getD, List.getElem?_eq_getElem hi']
  exact ⟨rfl, h _ (List.getElem_mem hi')⟩
theorem ix_rows {n : Nat} {L : List (List Nat)} (hl : L.length = n) {i : Nat} (hi : i < n) : ixD (.list (L.map encN)) (iD i) = .ret (.sh (encN (L.getD i []))) := ix_list (by
  rw [List.getElem?_map, List.getD_eq_getElem?_getD, List.getElem?_eq_getElem (by rw [hl]; exact hi)]
  rfl)
theorem e_last {m n way sc : Nat} {rows : PyData} {x9 : AV} (hn : n ≤ 60) (hr : RowsOk n rows) : ∃ R, sRet (cal tupleD (bC (oA (lcD [8] (itS (vA 5)) (gN 8) lcTest0 (cal tupleD (bC (oA (cal sortSetD (vD 8))) b0)))) b0)) (rho m n way sc rows x9) = .ret (.rt (.sh (encF n R))) := by
  obtain ⟨L, rfl, hl, h⟩ := hr
  refine ⟨fun i j => decide (j ∈ L.getD i []), ret_ok ?_⟩
  have hlc : lcD [8] (itS (vA 5)) (gN 8) lcTest0 (cal tupleD (bC (oA (cal sortSetD (vD 8))) b0)) (rho m n way sc (.list (L.map encN)) x9) = .ret (.own (L.map fun l => encT ((List.range n).filter fun j => decide (j ∈ l)))) := by
    refine lcD_eq (ds := L.map encN) rfl rfl (lcN1 (e := encN) _ L fun l hl2 => ?_)
    show ((((sortSetD (encN l)).bind toD).bind fun a => T.ret [a]).bind tupleD).bind toS = _
    rw [sortSet_row (h l hl2) hn]
    rfl
  refine (cal_ok (bC_ok (oA_own hlc) rfl)).trans ?_
  show T.ret (AV.sh (.tuple (L.map fun l => encT ((List.range n).filter fun j => decide (j ∈ l))))) = _
  rw [map_getD' _ hl]
  rfl
theorem e__law_relation {m : Nat} (h1 : 1 ≤ m) (h2 : m ≤ 6) : Hold (d__law_relation [.pot, .sh (iD m)]) fun av => ∃ n R, 1 ≤ n ∧ n ≤ m ∧ av = .sh (encF n R) := by
  rw [q__law_relation]
  refine hrun ?_
  unfold b__law_relation
  refine hseq ?_
  -- things, way
  have s1 : Hold (asgD (tupG 2 (consG (gN 2) (consG (gN 3) g0))) (cal mkTup (aC (bin addD (oA (kA (.int 1))) (oA (cal (calling 2 d__law_draw) (aC (vA 0) (aC (vA 1) a0))))) (aC (cal (calling 2 d__law_draw) (aC (vA 0) (aC (kA (.int 6)) a0))) a0))) [.pot, .sh (iD m), .no, .no, .no, .no, .no, .no, .no, .no])
      fun o => ∃ n way, (1 ≤ n ∧ n ≤ m) ∧ o = .nx [.pot, .sh (iD m), .sh (iD n), .sh (iD way), .no, .no, .no, .no, .no, .no] := by
    simp only [runD, seqD, ifD, setD, asgD, forD, parD, par3D, setV, extD, appD, ownAt, vD, vA, oA, kA, fzA, bin, tB, tNot, tAnd, tOr, nA, andA, orA, ifA, chA, a0, aC, b0, bC, cal, calK, isA, is2A, slA, o0, oI, ixL, itS, itZ, itE, gN, g0, lamA, xO, sNil, sRet, sEx, sErr, sBk, sCt, sShare, bind_ret, bind_err, slA0, slAp, slAf, slAs, slD0, slDo, slDs, calling, toB, toD, toS, toI, frz, dataA, allS, mkTup, mkLst, itemsL, itemsT, share, share1, tupG, consG, List.append_nil, List.replicate, List.getElem?_cons_zero, List.getElem?_cons_succ, List.cons_append, List.nil_append, Nat.sub_self, List.length_cons, List.length_nil, List.set_cons_zero, List.set_cons_succ, List.foldl_cons, List.foldl_nil, if_true, if_false, ite_true, ite_false, reduceCtorEq, Nat.reduceAdd, Nat.reduceSub, Nat.reduceLeDiff, Bool.not_true, Bool.not_false, Bool.false_eq_true, pick, List.filterMap_cons, List.filterMap_nil]
    simp only [hold_bind]
    refine draw_hold (by omega) (by omega) fun d hd => ?_
    simp only [runD, seqD, ifD, setD, asgD, forD, parD, par3D, setV, extD, appD, ownAt, vD, vA, oA, kA, fzA, bin, tB, tNot, tAnd, tOr, nA, andA, orA, ifA, chA, a0, aC, b0, bC, cal, calK, isA, is2A, slA, o0, oI, ixL, itS, itZ, itE, gN, g0, lamA, xO, sNil, sRet, sEx, sErr, sBk, sCt, sShare, bind_ret, bind_err, slA0, slAp, slAf, slAs, slD0, slDo, slDs, calling, toB, toD, toS, toI, frz, dataA, allS, mkTup, mkLst, itemsL, itemsT, share, share1, tupG, consG, List.append_nil, List.replicate, List.getElem?_cons_zero, List.getElem?_cons_succ, List.cons_append, List.nil_append, Nat.sub_self, List.length_cons, List.length_nil, List.set_cons_zero, List.set_cons_succ, List.foldl_cons, List.foldl_nil, if_true, if_false, ite_true, ite_false, reduceCtorEq, Nat.reduceAdd, Nat.reduceSub, Nat.reduceLeDiff, Bool.not_true, Bool.not_false, Bool.false_eq_true, pick, List.filterMap_cons, List.filterMap_nil, hold_ret]
    refine draw_int (n := 6) (by omega) (by omega) rfl fun w hw => ?_
    have e : addD (.int 1) (iD d) = .ret (.sh (iD (1 + d))) := int_iD 1 d
    simp only [e, runD, seqD, ifD, setD, asgD, forD, parD, par3D, setV, extD, appD, ownAt, vD, vA, oA, kA, fzA, bin, tB, tNot, tAnd, tOr, nA, andA, orA, ifA, chA, a0, aC, b0, bC, cal, calK, isA, is2A, slA, o0, oI, ixL, itS, itZ, itE, gN, g0, lamA, xO, sNil, sRet, sEx, sErr, sBk, sCt, sShare, bind_ret, bind_err, slA0, slAp, slAf, slAs, slD0, slDo, slDs, calling, toB, toD, toS, toI, frz, dataA, allS, mkTup, mkLst, itemsL, itemsT, share, share1, tupG, consG, List.append_nil, List.replicate, List.getElem?_cons_zero, List.getElem?_cons_succ, List.cons_append, List.nil_append, Nat.sub_self, List.length_cons, List.length_nil, List.set_cons_zero, List.set_cons_succ, List.foldl_cons, List.foldl_nil, if_true, if_false, ite_true, ite_false, reduceCtorEq, Nat.reduceAdd, Nat.reduceSub, Nat.reduceLeDiff, Bool.not_true, Bool.not_false, Bool.false_eq_true, pick, List.filterMap_cons, List.filterMap_nil, hold_ret, tup2]
    exact ⟨1 + d, w, ⟨by omega, by omega⟩, rfl⟩
  refine s1.mono fun o ⟨n, way, ⟨hn1, hn2⟩, ho⟩ => ⟨_, ho, hseq ?_⟩
  -- scarce
  have s2 : Hold (setD 4 (fzA (bin addD (oA (kA (.int 2))) (oA (cal (calling 2 d__law_draw) (aC (vA 0) (aC (kA (.int 3)) a0)))))) [.pot, .sh (iD m), .sh (iD n), .sh (iD way), .no, .no, .no, .no, .no, .no])
      fun o => ∃ sc, (1 ≤ sc ∧ sc ≤ 10) ∧ o = .nx [.pot, .sh (iD m), .sh (iD n), .sh (iD way), .sh (iD sc), .no, .no, .no, .no, .no] := by
    refine hset (hfz ?_)
    simp only [runD, seqD, ifD, setD, asgD, forD, parD, par3D, setV, extD, appD, ownAt, vD, vA, oA, kA, fzA, bin, tB, tNot, tAnd, tOr, nA, andA, orA, ifA, chA, a0, aC, b0, bC, cal, calK, isA, is2A, slA, o0, oI, ixL, itS, itZ, itE, gN, g0, lamA, xO, sNil, sRet, sEx, sErr, sBk, sCt, sShare, bind_ret, bind_err, slA0, slAp, slAf, slAs, slD0, slDo, slDs, calling, toB, toD, toS, toI, frz, dataA, allS, mkTup, mkLst, itemsL, itemsT, share, share1, tupG, consG, List.append_nil, List.replicate, List.getElem?_cons_zero, List.getElem?_cons_succ, List.cons_append, List.nil_append, Nat.sub_self, List.length_cons, List.length_nil, List.set_cons_zero, List.set_cons_succ, List.foldl_cons, List.foldl_nil, if_true, if_false, ite_true, ite_false, reduceCtorEq, Nat.reduceAdd, Nat.reduceSub, Nat.reduceLeDiff, Bool.not_true, Bool.not_false, Bool.false_eq_true, pick, List.filterMap_cons, List.filterMap_nil]
    simp only [hold_bind]
    refine draw_int (n := 3) (by omega) (by omega) rfl fun d hd => ?_
    have e : addD (.int 2) (iD d) = .ret (.sh (iD (2 + d))) := int_iD 2 d
    simp only [runD, seqD, ifD, setD, asgD, forD, parD, par3D, setV, extD, appD, ownAt, vD, vA, oA, kA, fzA, bin, tB, tNot, tAnd, tOr, nA, andA, orA, ifA, chA, a0, aC, b0, bC, cal, calK, isA, is2A, slA, o0, oI, ixL, itS, itZ, itE, gN, g0, lamA, xO, sNil, sRet, sEx, sErr, sBk, sCt, sShare, bind_ret, bind_err, slA0, slAp, slAf, slAs, slD0, slDo, slDs, calling, toB, toD, toS, toI, frz, dataA, allS, mkTup, mkLst, itemsL, itemsT, share, share1, tupG, consG, List.append_nil, List.replicate, List.getElem?_cons_zero, List.getElem?_cons_succ, List.cons_append, List.nil_append, Nat.sub_self, List.length_cons, List.length_nil, List.set_cons_zero, List.set_cons_succ, List.foldl_cons, List.foldl_nil, if_true, if_false, ite_true, ite_false, reduceCtorEq, Nat.reduceAdd, Nat.reduceSub, Nat.reduceLeDiff, Bool.not_true, Bool.not_false, Bool.false_eq_true, pick, List.filterMap_cons, List.filterMap_nil, hold_ret, e]
    exact ⟨(by intro z; cases z), 2 + d, ⟨by omega, by omega⟩, rfl⟩
  refine s2.mono fun o ⟨sc, ⟨hs1, hs2⟩, ho⟩ => ⟨_, ho, hseq ?_⟩
  -- the rows
  have s3 := rows_range (m := m) (n := n) (way := way) (sc := sc) (rows := .none) (x9 := .no) (x5 := .no) (f := lcD [6] (itR (vD 2)) (gN 6) (tB (bin eqA (oA (cal (calling 2 d__law_draw) (aC (vA 0) (aC (vA 4) a0)))) (oA (kA (.int 0))))) (vA 6)) (.inr rfl) (by omega) fun a ha => row_hold (by omega) rfl rfl (by simp) fun b hb => by
    simp only [runD, seqD, ifD, setD, asgD, forD, parD, par3D, setV, extD, appD, ownAt, vD, vA, oA, kA, fzA, bin, tB, tNot, tAnd, tOr, nA, andA, orA, ifA, chA, a0, aC, b0, bC, cal, calK, isA, is2A, slA, o0, oI, ixL, itS, itZ, itE, gN, g0, lamA, xO, sNil, sRet, sEx, sErr, sBk, sCt, sShare, bind_ret, bind_err, slA0, slAp, slAf, slAs, slD0, slDo, slDs, calling, toB, toD, toS, toI, frz, dataA, allS, mkTup, mkLst, itemsL, itemsT, share, share1, tupG, consG, List.append_nil, List.replicate, List.getElem?_cons_zero, List.getElem?_cons_succ, List.cons_append, List.nil_append, Nat.sub_self, List.length_cons, List.length_nil, List.set_cons_zero, List.set_cons_succ, List.foldl_cons, List.foldl_nil, if_true, if_false, ite_true, ite_false, reduceCtorEq, Nat.reduceAdd, Nat.reduceSub, Nat.reduceLeDiff, Bool.not_true, Bool.not_false, Bool.false_eq_true, pick, List.filterMap_cons, List.filterMap_nil]
    simp only [hold_bind]
    refine draw_hold (by omega) (by omega) fun d hd => ?_
    simp only [runD, seqD, ifD, setD, asgD, forD, parD, par3D, setV, extD, appD, ownAt, vD, vA, oA, kA, fzA, bin, tB, tNot, tAnd, tOr, nA, andA, orA, ifA, chA, a0, aC, b0, bC, cal, calK, isA, is2A, slA, o0, oI, ixL, itS, itZ, itE, gN, g0, lamA, xO, sNil, sRet, sEx, sErr, sBk, sCt, sShare, bind_ret, bind_err, slA0, slAp, slAf, slAs, slD0, slDo, slDs, calling, toB, toD, toS, toI, frz, dataA, allS, mkTup, mkLst, itemsL, itemsT, share, share1, tupG, consG, List.append_nil, List.replicate, List.getElem?_cons_zero, List.getElem?_cons_succ, List.cons_append, List.nil_append, Nat.sub_self, List.length_cons, List.length_nil, List.set_cons_zero, List.set_cons_succ, List.foldl_cons, List.foldl_nil, if_true, if_false, ite_true, ite_false, reduceCtorEq, Nat.reduceAdd, Nat.reduceSub, Nat.reduceLeDiff, Bool.not_true, Bool.not_false, Bool.false_eq_true, pick, List.filterMap_cons, List.filterMap_nil, hold_ret]
    rw [eq_lit (i := 0) 0 rfl]
    exact trivial
  refine s3.mono fun o ⟨rows, ho, hr⟩ => ⟨_, ho, hseq ?_⟩
  -- way 1
  refine (way_step (k := 1) rfl hr ((rows_range (rows := rows) (x5 := .sh rows) (.inl rfl) (by omega) fun a ha => ?_).mono fun o ⟨r, h1, h2⟩ => ⟨r, _, h1, h2⟩)).mono fun o ⟨rows, x9, ho, hr⟩ => ⟨_, ho, hseq ?_⟩
  · simp only [runD, seqD, ifD, setD, asgD, forD, parD, par3D, setV, extD, appD, ownAt, vD, vA, oA, kA, fzA, bin, tB, tNot, tAnd, tOr, nA, andA, orA, ifA, chA, a0, aC, b0, bC, cal, calK, isA, is2A, slA, o0, oI, ixL, itS, itZ, itE, gN, g0, lamA, xO, sNil, sRet, sEx, sErr, sBk, sCt, sShare, bind_ret, bind_err, slA0, slAp, slAf, slAs, slD0, slDo, slDs, calling, toB, toD, toS, toI, frz, dataA, allS, mkTup, mkLst, itemsL, itemsT, share, share1, tupG, consG, List.append_nil, List.replicate, List.getElem?_cons_zero, List.getElem?_cons_succ, List.cons_append, List.nil_append, Nat.sub_self, List.length_cons, List.length_nil, List.set_cons_zero, List.set_cons_succ, List.foldl_cons, List.foldl_nil, if_true, if_false, ite_true, ite_false, reduceCtorEq, Nat.reduceAdd, Nat.reduceSub, Nat.reduceLeDiff, Bool.not_true, Bool.not_false, Bool.false_eq_true, pick, List.filterMap_cons, List.filterMap_nil]
    simp only [hold_bind]
    refine draw_hold (by omega) (by omega) fun d hd => ?_
    simp only [runD, seqD, ifD, setD, asgD, forD, parD, par3D, setV, extD, appD, ownAt, vD, vA, oA, kA, fzA, bin, tB, tNot, tAnd, tOr, nA, andA, orA, ifA, chA, a0, aC, b0, bC, cal, calK, isA, is2A, slA, o0, oI, ixL, itS, itZ, itE, gN, g0, lamA, xO, sNil, sRet, sEx, sErr, sBk, sCt, sShare, bind_ret, bind_err, slA0, slAp, slAf, slAs, slD0, slDo, slDs, calling, toB, toD, toS, toI, frz, dataA, allS, mkTup, mkLst, itemsL, itemsT, share, share1, tupG, consG, List.append_nil, List.replicate, List.getElem?_cons_zero, List.getElem?_cons_succ, List.cons_append, List.nil_append, Nat.sub_self, List.length_cons, List.length_nil, List.set_cons_zero, List.set_cons_succ, List.foldl_cons, List.foldl_nil, if_true, if_false, ite_true, ite_false, reduceCtorEq, Nat.reduceAdd, Nat.reduceSub, Nat.reduceLeDiff, Bool.not_true, Bool.not_false, Bool.false_eq_true, pick, List.filterMap_cons, List.filterMap_nil, hold_ret]
    exact ⟨[d], rfl, fun a h => by rw [List.mem_singleton.mp h]; exact hd, (by simp)⟩
  -- way 2
  refine (way_step (k := 2) rfl hr ?_).mono fun o ⟨rows, x9, ho, hr⟩ => ⟨_, ho, hseq ?_⟩
  · obtain ⟨L, rfl, hl, h⟩ := hr
    refine hset (hfz (lcD_hold (ds := L.map encN) rfl rfl ((lcH1 (e := encN) (fun _ y => ∃ r, y = encN r ∧ RowOk n r) L fun l hl2 => row_hold (by omega) rfl rfl (by simp) fun b hb => ?_).mono fun ys hys => ?_)))
    · simp only [runD, seqD, ifD, setD, asgD, forD, parD, par3D, setV, extD, appD, ownAt, vD, vA, oA, kA, fzA, bin, tB, tNot, tAnd, tOr, nA, andA, orA, ifA, chA, a0, aC, b0, bC, cal, calK, isA, is2A, slA, o0, oI, ixL, itS, itZ, itE, gN, g0, lamA, xO, sNil, sRet, sEx, sErr, sBk, sCt, sShare, bind_ret, bind_err, slA0, slAp, slAf, slAs, slD0, slDo, slDs, calling, toB, toD, toS, toI, frz, dataA, allS, mkTup, mkLst, itemsL, itemsT, share, share1, tupG, consG, List.append_nil, List.replicate, List.getElem?_cons_zero, List.getElem?_cons_succ, List.cons_append, List.nil_append, Nat.sub_self, List.length_cons, List.length_nil, List.set_cons_zero, List.set_cons_succ, List.foldl_cons, List.foldl_nil, if_true, if_false, ite_true, ite_false, reduceCtorEq, Nat.reduceAdd, Nat.reduceSub, Nat.reduceLeDiff, Bool.not_true, Bool.not_false, Bool.false_eq_true, pick, List.filterMap_cons, List.filterMap_nil, mem_N]
      trivial
    · obtain ⟨L', rfl, h3, h4⟩ := all2_rows hys
      exact ⟨(by intro z; cases z), _, _, rfl, L', rfl, by rw [h3, hl], h4⟩
  -- way 3
  refine (way_step (k := 3) rfl hr ?_).mono fun o ⟨rows, x9, ho, hr⟩ => ⟨_, ho, hseq ?_⟩
  · obtain ⟨L, rfl, hl, h⟩ := hr
    refine (rows_range (rows := .list (L.map encN)) (x5 := .sh (.list (L.map encN))) (.inl rfl) (by omega) fun a ha => row_hold (by omega) rfl rfl (by simp) fun b hb => ?_).mono fun o ⟨r, h1, h2⟩ => ⟨r, _, h1, h2⟩
    simp only [runD, seqD, ifD, setD, asgD, forD, parD, par3D, setV, extD, appD, ownAt, vD, vA, oA, kA, fzA, bin, tB, tNot, tAnd, tOr, nA, andA, orA, ifA, chA, a0, aC, b0, bC, cal, calK, isA, is2A, slA, o0, oI, ixL, itS, itZ, itE, gN, g0, lamA, xO, sNil, sRet, sEx, sErr, sBk, sCt, sShare, bind_ret, bind_err, slA0, slAp, slAf, slAs, slD0, slDo, slDs, calling, toB, toD, toS, toI, frz, dataA, allS, mkTup, mkLst, itemsL, itemsT, share, share1, tupG, consG, List.append_nil, List.replicate, List.getElem?_cons_zero, List.getElem?_cons_succ, List.cons_append, List.nil_append, Nat.sub_self, List.length_cons, List.length_nil, List.set_cons_zero, List.set_cons_succ, List.foldl_cons, List.foldl_nil, if_true, if_false, ite_true, ite_false, reduceCtorEq, Nat.reduceAdd, Nat.reduceSub, Nat.reduceLeDiff, Bool.not_true, Bool.not_false, Bool.false_eq_true, pick, List.filterMap_cons, List.filterMap_nil, ix_rows hl ha, ix_rows hl hb, mem_N]
    cases decide (b ∈ L.getD a []) <;> trivial
  -- way 4
  refine (way_step (k := 4) rfl hr ?_).mono fun o ⟨rows, x9, ho, hr⟩ => ⟨_, ho, ?_⟩
  · refine hseq (hset (hfz ?_))
    simp only [runD, seqD, ifD, setD, asgD, forD, parD, par3D, setV, extD, appD, ownAt, vD, vA, oA, kA, fzA, bin, tB, tNot, tAnd, tOr, nA, andA, orA, ifA, chA, a0, aC, b0, bC, cal, calK, isA, is2A, slA, o0, oI, ixL, itS, itZ, itE, gN, g0, lamA, xO, sNil, sRet, sEx, sErr, sBk, sCt, sShare, bind_ret, bind_err, slA0, slAp, slAf, slAs, slD0, slDo, slDs, calling, toB, toD, toS, toI, frz, dataA, allS, mkTup, mkLst, itemsL, itemsT, share, share1, tupG, consG, List.append_nil, List.replicate, List.getElem?_cons_zero, List.getElem?_cons_succ, List.cons_append, List.nil_append, Nat.sub_self, List.length_cons, List.length_nil, List.set_cons_zero, List.set_cons_succ, List.foldl_cons, List.foldl_nil, if_true, if_false, ite_true, ite_false, reduceCtorEq, Nat.reduceAdd, Nat.reduceSub, Nat.reduceLeDiff, Bool.not_true, Bool.not_false, Bool.false_eq_true, pick, List.filterMap_cons, List.filterMap_nil]
    refine draw_hold (by omega) (by omega) fun d hd => ?_
    refine ⟨(by intro z; cases z), _, rfl, ?_⟩
    refine (rows_range (rows := rows) (x5 := .sh rows) (x9 := .sh (iD d)) (.inl rfl) (by omega) fun a ha => ?_).mono fun o ⟨r, h1, h2⟩ => ⟨r, _, h1, h2⟩
    have e : intOfD [iD (a + d)] = .ret (.sh (iD (a + d))) := rfl
    simp only [runD, seqD, ifD, setD, asgD, forD, parD, par3D, setV, extD, appD, ownAt, vD, vA, oA, kA, fzA, bin, tB, tNot, tAnd, tOr, nA, andA, orA, ifA, chA, a0, aC, b0, bC, cal, calK, isA, is2A, slA, o0, oI, ixL, itS, itZ, itE, gN, g0, lamA, xO, sNil, sRet, sEx, sErr, sBk, sCt, sShare, bind_ret, bind_err, slA0, slAp, slAf, slAs, slD0, slDo, slDs, calling, toB, toD, toS, toI, frz, dataA, allS, mkTup, mkLst, itemsL, itemsT, share, share1, tupG, consG, List.append_nil, List.replicate, List.getElem?_cons_zero, List.getElem?_cons_succ, List.cons_append, List.nil_append, Nat.sub_self, List.length_cons, List.length_nil, List.set_cons_zero, List.set_cons_succ, List.foldl_cons, List.foldl_nil, if_true, if_false, ite_true, ite_false, reduceCtorEq, Nat.reduceAdd, Nat.reduceSub, Nat.reduceLeDiff, Bool.not_true, Bool.not_false, Bool.false_eq_true, pick, List.filterMap_cons, List.filterMap_nil, int_iD, e, mod_iD (a := a + d) (n := n) (by omega), hold_ret]
    exact ⟨[(a + d) % n], rfl, fun b h => by rw [List.mem_singleton.mp h]; exact Nat.mod_lt _ (by omega), (by simp)⟩
  -- the last
  obtain ⟨R, e⟩ := e_last (m := m) (way := way) (sc := sc) (x9 := x9) (show n ≤ 60 by omega) hr
  refine hold_of e ⟨_, rfl, n, R, hn1, hn2, rfl⟩
end Mf
end
section
set_option Elab.async false
set_option linter.all false
set_option autoImplicit false
set_option maxRecDepth 100000
/-! M12: mixed lists, picks. -/
namespace Mf
open PySem Dn Wk

theorem pop_ok {i : Nat} {f : Dn.Env → T PyData} {ρ : Dn.Env} {ds : List PyData} {k : Nat} {y : PyData} (h1 : ρ[i]? = some (.own ds)) (h2 : f ρ = .ret (iD k)) (h3 : ds[k]? = some y) (h4 : ds.length ≤ 1000000) : popD i f ρ = .ret (y, ρ.set i (.own (ds.eraseIdx k))) := by
  have hk : k < ds.length := lt_of_get h3
  have e : seqIndex? (k : Int) ds.length = some k := by
    unfold seqIndex?
    simp only []
    rw [if_neg (show ¬ (k : Int) < 0 by omega), if_pos (by simp; omega), Int.toNat_natCast]
  unfold popD ownAt
  simp only [h1, h2, bind_ret, e, h3]
  rw [if_pos (by omega)]
abbrev mixC : Dn.Env → T Bool := tB (bin neA (vD 2) (oA (cal mkLst a0)))
noncomputable abbrev mixB : Dn.Env → T Out := appD 3 (popD 2 (oA (cal (calling 2 d__law_draw) (aC (vA 0) (aC (cal lenD (bC (vD 2) b0)) a0)))))
abbrev mixR (x : AV) (l r : List Nat) : Dn.Env := [.pot, x, .own (l.map iD), .own (r.map iD)]
theorem mixC_eq {x : AV} {l r : List Nat} : mixC (mixR x l r) = .ret (!decide (l = [])) := by
  have e : neA (.list (l.map iD)) (.list []) = .ret (.sh (.bool (!decide (l = [])))) := ne_N (p := l) (q := [])
  simp only [mixC, mixR, runD, seqD, ifD, setD, asgD, forD, parD, par3D, setV, extD, appD, ownAt, vD, vA, oA, kA, fzA, bin, tB, tNot, tAnd, tOr, nA, andA, orA, ifA, chA, a0, aC, b0, bC, cal, calK, isA, is2A, slA, o0, oI, ixL, itS, itZ, itE, gN, g0, lamA, xO, sNil, sRet, sEx, sErr, sBk, sCt, sShare, bind_ret, bind_err, slA0, slAp, slAf, slAs, slD0, slDo, slDs, calling, toB, toD, toS, toI, frz, dataA, allS, mkTup, mkLst, itemsL, itemsT, share, share1, tupG, consG, List.append_nil, List.replicate, List.getElem?_cons_zero, List.getElem?_cons_succ, List.cons_append, List.nil_append, Nat.sub_self, List.length_cons, List.length_nil, List.set_cons_zero, List.set_cons_succ, List.foldl_cons, List.foldl_nil, if_true, if_false, ite_true, ite_false, reduceCtorEq, Nat.reduceAdd, Nat.reduceSub, Nat.reduceLeDiff, Bool.not_true, Bool.not_false, Bool.false_eq_true, pick, List.filterMap_cons, List.filterMap_nil, Nat.zero_le, e]
theorem erase_perm {l : List Nat} {d : Nat} (h : d < l.length) : (l.eraseIdx d ++ [l[d]]).Perm l := by
  have e : l = l.take d ++ l[d] :: l.drop (d + 1) := by simp
  have e2 : l.eraseIdx d = l.take d ++ l.drop (d + 1) := List.eraseIdx_eq_take_drop_succ _ _
  rw [e2, List.append_assoc]
  conv => rhs; rw [e]
  exact List.Perm.append_left _ (List.perm_append_comm (l₁ := l.drop (d + 1)) (l₂ := [l[d]]))
theorem mix_loop {x : AV} : ∀ (k : Nat) (l r : List Nat), l.length ≤ k → l.length + r.length ≤ 1000 → Hold (whileN [] mixC mixB (k + 1) (mixR x l r)) fun o => ∃ r', o = .nx (mixR x [] r') ∧ r'.Perm (l ++ r)
  | 0, l, r, hk, _ => by
    have : l = [] := List.length_eq_zero_iff.mp (by omega)
    subst this
    show Hold ((mixC (mixR x [] r)).bind _) _
    rw [mixC_eq]
    exact ⟨r, rfl, List.Perm.refl _⟩
  | k + 1, l, r, hk, hl => by
    show Hold ((mixC (mixR x l r)).bind _) _
    rw [mixC_eq, bind_ret]
    by_cases h : l = []
    · subst h
      exact ⟨r, rfl, List.Perm.refl _⟩
    · rw [if_pos (by simp [h])]
      have hlen : 0 < l.length := List.length_pos_iff.mpr h
      refine Hold.bind' ?_
      have hb : Hold (mixB (mixR x l r)) fun o => ∃ d, ∃ hd : d < l.length, o = .nx (mixR x (l.eraseIdx d) (r ++ [l[d]])) := by
        show Hold (appD 3 _ (mixR x l r)) _
        unfold appD ownAt
        show Hold ((popD 2 _ (mixR x l r)).bind _) _
        refine Hold.bind' ?_
        unfold popD ownAt
        show Hold (((((T.ret (iD ((l.map iD).length))).bind fun a => T.ret [AV.pot, .sh a]).bind (calling 2 d__law_draw)).bind toD).bind _) _
        rw [List.length_map]
        show Hold (((d__law_draw [.pot, .sh (iD l.length)]).bind toD).bind _) _
        refine Hold.bind' (Hold.bind' (draw_hold hlen (by omega) fun d hd => ?_))
        have e1 : seqIndex? (d : Int) l.length = some d := by
          unfold seqIndex?
          simp only []
          rw [if_neg (show ¬ (d : Int) < 0 by omega), if_pos (by simp; omega), Int.toNat_natCast]
        have e2 : (l.map iD)[d]? = some (iD l[d]) := by rw [List.getElem?_map, List.getElem?_eq_getElem hd] <;> rfl
        simp only [toD, hold_ret, List.length_map, e1, e2]
        rw [if_pos (by omega)]
        show Hold (if (r.map iD).length < 1000000 then _ else _) _
        rw [if_pos (by rw [List.length_map]; omega)]
        refine ⟨d, hd, ?_⟩
        have e3 : (l.map iD).eraseIdx d = (l.eraseIdx d).map iD := by rw [List.eraseIdx_eq_take_drop_succ, List.eraseIdx_eq_take_drop_succ, List.map_append, List.map_take, List.map_drop]
        show Out.nx [.pot, x, .own ((l.map iD).eraseIdx d), .own (r.map iD ++ [iD l[d]])] = _
        rw [e3]
        unfold mixR
        rw [List.map_append]
        rfl
      refine hb.mono fun o ⟨d, hd, ho⟩ => ?_
      subst ho
      have hle : (l.eraseIdx d).length = l.length - 1 := List.length_eraseIdx_of_lt hd
      refine (mix_loop k (l.eraseIdx d) (r ++ [l[d]]) (by omega) (by rw [List.length_append, hle]; simp; omega)).mono fun o ⟨r', h1, h2⟩ => ⟨r', h1, h2.trans ?_⟩
      have q := erase_perm hd
      exact (List.Perm.append_left _ List.perm_append_comm).trans ((by rw [← List.append_assoc]; exact List.Perm.append_right r q))
theorem e__law_mixed {n : Nat} (hn : n ≤ 6) : Hold (d__law_mixed [.pot, .sh (encN (List.range n))]) fun av => ∃ p, Perm n p ∧ av = .sh (encN p) := by
  rw [q__law_mixed]
  refine hrun ?_
  have e : b__law_mixed = seqD (parD 2 3 (cal listD (bC (vD 1) b0)) (cal mkLst a0)) (seqD (whileN [] mixC mixB 1000) (sShare [3] (sRet (vA 3)))) := rfl
  rw [e]
  refine hseq ?_
  refine hold_of (a := .nx (mixR (.sh (encN (List.range n))) (List.range n) [])) rfl ⟨_, rfl, hseq ?_⟩
  refine (mix_loop 999 (List.range n) [] (by rw [List.length_range]; omega) (by rw [List.length_range]; simp; omega)).mono fun o ⟨r', ho, hp⟩ => ⟨_, ho, ?_⟩
  rw [List.append_nil] at hp
  exact hold_of (a := .rt (.sh (encN r'))) rfl ⟨_, rfl, r', Perm.of hp, rfl⟩
theorem e__law_pick {ds : List PyData} (h0 : 0 < ds.length) (h1 : ds.length < 1073741824) : Hold (d__law_pick [.pot, .sh (.list ds)]) fun av => ∃ d ∈ ds, av = .sh d := by
  have el : lenD [.list ds] = .ret (.sh (iD ds.length)) := rfl
  rw [q__law_pick]
  refine hrun ?_
  unfold b__law_pick
  refine hret ?_
  simp only [runD, seqD, ifD, setD, asgD, forD, parD, par3D, setV, extD, appD, ownAt, vD, vA, oA, kA, fzA, bin, tB, tNot, tAnd, tOr, nA, andA, orA, ifA, chA, a0, aC, b0, bC, cal, calK, isA, is2A, slA, o0, oI, ixL, itS, itZ, itE, gN, g0, lamA, xO, sNil, sRet, sEx, sErr, sBk, sCt, sShare, bind_ret, bind_err, slA0, slAp, slAf, slAs, slD0, slDo, slDs, calling, toB, toD, toS, toI, frz, dataA, allS, mkTup, mkLst, itemsL, itemsT, share, share1, tupG, consG, List.append_nil, List.replicate, List.getElem?_cons_zero, List.getElem?_cons_succ, List.cons_append, List.nil_append, Nat.sub_self, List.length_cons, List.length_nil, List.set_cons_zero, List.set_cons_succ, List.foldl_cons, List.foldl_nil, if_true, if_false, ite_true, ite_false, reduceCtorEq, Nat.reduceAdd, Nat.reduceSub, Nat.reduceLeDiff, Bool.not_true, Bool.not_false, Bool.false_eq_true, pick, List.filterMap_cons, List.filterMap_nil, el]
  simp only [hold_bind]
  refine draw_hold h0 h1 fun d hd => ?_
  simp only [runD, seqD, ifD, setD, asgD, forD, parD, par3D, setV, extD, appD, ownAt, vD, vA, oA, kA, fzA, bin, tB, tNot, tAnd, tOr, nA, andA, orA, ifA, chA, a0, aC, b0, bC, cal, calK, isA, is2A, slA, o0, oI, ixL, itS, itZ, itE, gN, g0, lamA, xO, sNil, sRet, sEx, sErr, sBk, sCt, sShare, bind_ret, bind_err, slA0, slAp, slAf, slAs, slD0, slDo, slDs, calling, toB, toD, toS, toI, frz, dataA, allS, mkTup, mkLst, itemsL, itemsT, share, share1, tupG, consG, List.append_nil, List.replicate, List.getElem?_cons_zero, List.getElem?_cons_succ, List.cons_append, List.nil_append, Nat.sub_self, List.length_cons, List.length_nil, List.set_cons_zero, List.set_cons_succ, List.foldl_cons, List.foldl_nil, if_true, if_false, ite_true, ite_false, reduceCtorEq, Nat.reduceAdd, Nat.reduceSub, Nat.reduceLeDiff, Bool.not_true, Bool.not_false, Bool.false_eq_true, pick, List.filterMap_cons, List.filterMap_nil, hold_ret]
  have e : ixD (.list ds) (iD d) = .ret (.sh ds[d]) := ix_list (List.getElem?_eq_getElem hd)
  rw [e]
  exact ⟨_, rfl, _, List.getElem_mem hd, rfl⟩
end Mf
end
section
set_option Elab.async false
set_option linter.all false
set_option autoImplicit false
set_option maxRecDepth 100000
/-! M13: papers. -/
namespace Mf
open PySem Dn Wk
open Classical

/-! ### equal data -/
theorem eqA_d {n m : Nat} {x y : PyData} (hx : Ok n x) (hy : Ok m y) (hn : n ≤ 64 := by decide) (hm : m ≤ 64 := by decide) : eqA x y = .ret (.sh (.bool (decide (x = y)))) := eqA_ok hx hy hn hm
theorem neA_d {n m : Nat} {x y : PyData} (hx : Ok n x) (hy : Ok m y) (hn : n ≤ 64 := by decide) (hm : m ≤ 64 := by decide) : neA x y = .ret (.sh (.bool (!decide (x = y)))) := neA_ok hx hy hn hm
theorem eq_S {a b : Str} : eqA (.str a) (.str b) = .ret (.sh (.bool (decide (a = b)))) := by
  show T.ret _ = _
  congr 4
theorem ne_S {a b : Str} : neA (.str a) (.str b) = .ret (.sh (.bool (!decide (a = b)))) := by
  show T.ret _ = _
  congr 5
theorem minF_form (n : Nat) (R : Nat → Nat → Bool) : ∃ S, minF n R = encF n S := by
  obtain ⟨⟨p, _, e⟩, _⟩ := minF_spec n R
  exact ⟨_, e⟩
theorem ok_min (n : Nat) (R : Nat → Nat → Bool) : Ok 2 (minF n R) := by
  obtain ⟨S, e⟩ := minF_form n R
  rw [e]
  exact ok_encF n S
theorem ok_two {x y : PyData} (hx : Ok 2 x) (hy : Ok 2 y) : Ok 3 (.tuple [x, y]) := Ok.tuple fun z hz => by
  rcases List.mem_cons.mp hz with rfl | hz
  · exact hx
  · rw [List.mem_singleton.mp hz]
    exact hy
theorem ok_names (l : List (List Nat)) : Ok 2 (.list (l.map encN)) := Ok.list fun x hx => by
  obtain ⟨p, _, rfl⟩ := List.mem_map.mp hx
  exact ok_encN p
theorem ne_nil {l : List (List Nat)} : neA (.list (l.map encN)) (.list []) = .ret (.sh (.bool (!l.isEmpty))) := by
  have h : Ok 2 (.list []) := ok_names []
  rw [neA_d (ok_names l) h]
  congr 4
  cases l with
  | nil => exact decide_eq_true rfl
  | cons p l => exact decide_eq_false (by intro z; cases z)
/-- the paper that is told -/
def paper (n : Nat) (R S : Nat → Nat → Bool) : PyData := match same n R S with
  | p :: _ => .tuple [.str "names", encN p]
  | [] => .tuple [.str "forms", .tuple [minF n R, minF n S]]
theorem tup2_4000 (x y : PyData) : mkTup [.sh x, .sh y] = .ret (.sh (.tuple [x, y])) := rfl
theorem e_are_alike {n : Nat} {R S : Nat → Nat → Bool} (h1 : 1 ≤ n) (h2 : n ≤ 6) : d_are_alike [.sh (encF n R), .sh (encF n S)] = .ret (.sh (.bool (!(same n R S).isEmpty))) := by
  simp only [q_are_alike, b_are_alike, runD, seqD, ifD, setD, asgD, forD, parD, par3D, setV, extD, appD, ownAt, vD, vA, oA, kA, fzA, bin, tB, tNot, tAnd, tOr, nA, andA, orA, ifA, chA, a0, aC, b0, bC, cal, calK, isA, is2A, slA, o0, oI, ixL, itS, itZ, itE, gN, g0, lamA, xO, sNil, sRet, sEx, sErr, sBk, sCt, sShare, bind_ret, bind_err, slA0, slAp, slAf, slAs, slD0, slDo, slDs, calling, toB, toD, toS, toI, frz, dataA, allS, mkTup, mkLst, itemsL, itemsT, share, share1, tupG, consG, List.append_nil, List.replicate, List.getElem?_cons_zero, List.getElem?_cons_succ, List.cons_append, List.nil_append, Nat.sub_self, List.length_cons, List.length_nil, List.set_cons_zero, List.set_cons_succ, List.foldl_cons, List.foldl_nil, if_true, if_false, ite_true, ite_false, reduceCtorEq, Nat.reduceAdd, Nat.reduceSub, Nat.reduceLeDiff, Bool.not_true, Bool.not_false, Bool.false_eq_true, pick, List.filterMap_cons, List.filterMap_nil, e_want_two h1 h2, e_namings_of h2, Nat.zero_le, ne_nil]
theorem e_alike_paper {n : Nat} {R S : Nat → Nat → Bool} (h1 : 1 ≤ n) (h2 : n ≤ 6) : d_alike_paper [.sh (encF n R), .sh (encF n S)] = .ret (.sh (paper n R S)) := by
  unfold paper
  cases h : same n R S with
  | nil =>
    have e : neA (.list []) (.list []) = .ret (.sh (.bool false)) := ne_nil (l := [])
    simp only [q_alike_paper, b_alike_paper, runD, seqD, ifD, setD, asgD, forD, parD, par3D, setV, extD, appD, ownAt, vD, vA, oA, kA, fzA, bin, tB, tNot, tAnd, tOr, nA, andA, orA, ifA, chA, a0, aC, b0, bC, cal, calK, isA, is2A, slA, o0, oI, ixL, itS, itZ, itE, gN, g0, lamA, xO, sNil, sRet, sEx, sErr, sBk, sCt, sShare, bind_ret, bind_err, slA0, slAp, slAf, slAs, slD0, slDo, slDs, calling, toB, toD, toS, toI, frz, dataA, allS, mkTup, mkLst, itemsL, itemsT, share, share1, tupG, consG, List.append_nil, List.replicate, List.getElem?_cons_zero, List.getElem?_cons_succ, List.cons_append, List.nil_append, Nat.sub_self, List.length_cons, List.length_nil, List.set_cons_zero, List.set_cons_succ, List.foldl_cons, List.foldl_nil, if_true, if_false, ite_true, ite_false, reduceCtorEq, Nat.reduceAdd, Nat.reduceSub, Nat.reduceLeDiff, Bool.not_true, Bool.not_false, Bool.false_eq_true, pick, List.filterMap_cons, List.filterMap_nil, e_want_two h1 h2, e_namings_of h2, h, List.map_nil, Nat.zero_le, e, e_form_of h2]
  | cons p l =>
    have e : neA (.list (encN p :: l.map encN)) (.list []) = .ret (.sh (.bool true)) := ne_nil (l := p :: l)
    have e2 : ixD (.list (encN p :: l.map encN)) (.int 0) = .ret (.sh (encN p)) := ix_list (i := 0) rfl
    simp only [q_alike_paper, b_alike_paper, runD, seqD, ifD, setD, asgD, forD, parD, par3D, setV, extD, appD, ownAt, vD, vA, oA, kA, fzA, bin, tB, tNot, tAnd, tOr, nA, andA, orA, ifA, chA, a0, aC, b0, bC, cal, calK, isA, is2A, slA, o0, oI, ixL, itS, itZ, itE, gN, g0, lamA, xO, sNil, sRet, sEx, sErr, sBk, sCt, sShare, bind_ret, bind_err, slA0, slAp, slAf, slAs, slD0, slDo, slDs, calling, toB, toD, toS, toI, frz, dataA, allS, mkTup, mkLst, itemsL, itemsT, share, share1, tupG, consG, List.append_nil, List.replicate, List.getElem?_cons_zero, List.getElem?_cons_succ, List.cons_append, List.nil_append, Nat.sub_self, List.length_cons, List.length_nil, List.set_cons_zero, List.set_cons_succ, List.foldl_cons, List.foldl_nil, if_true, if_false, ite_true, ite_false, reduceCtorEq, Nat.reduceAdd, Nat.reduceSub, Nat.reduceLeDiff, Bool.not_true, Bool.not_false, Bool.false_eq_true, pick, List.filterMap_cons, List.filterMap_nil, e_want_two h1 h2, e_namings_of h2, h, List.map_cons, Nat.zero_le, e, e2]
theorem e_is_tuple2 {x y : PyData} : d_is_tuple [.sh (.tuple [x, y]), .sh (.int 2)] = yes := by
  have e : lenD [.tuple [x, y]] = .ret (.sh (iD 2)) := rfl
  have e2 : eqA (iD 2) (.int 2) = .ret (.sh (.bool true)) := by
    have := eq_len (a := 2) (b := 2)
    rw [decide_eq_true rfl] at this
    exact this
  have e3 : isTy "tuple" (.tuple [x, y]) = true := by simp [isTy, tyName]
  simp only [q_is_tuple, b_is_tuple, runD, seqD, ifD, setD, asgD, forD, parD, par3D, setV, extD, appD, ownAt, vD, vA, oA, kA, fzA, bin, tB, tNot, tAnd, tOr, nA, andA, orA, ifA, chA, a0, aC, b0, bC, cal, calK, isA, is2A, slA, o0, oI, ixL, itS, itZ, itE, gN, g0, lamA, xO, sNil, sRet, sEx, sErr, sBk, sCt, sShare, bind_ret, bind_err, slA0, slAp, slAf, slAs, slD0, slDo, slDs, calling, toB, toD, toS, toI, frz, dataA, allS, mkTup, mkLst, itemsL, itemsT, share, share1, tupG, consG, List.append_nil, List.replicate, List.getElem?_cons_zero, List.getElem?_cons_succ, List.cons_append, List.nil_append, Nat.sub_self, List.length_cons, List.length_nil, List.set_cons_zero, List.set_cons_succ, List.foldl_cons, List.foldl_nil, if_true, if_false, ite_true, ite_false, reduceCtorEq, Nat.reduceAdd, Nat.reduceSub, Nat.reduceLeDiff, Bool.not_true, Bool.not_false, Bool.false_eq_true, pick, List.filterMap_cons, List.filterMap_nil, e, e2, e3]
theorem e_are_forms {n : Nat} {A B : Nat → Nat → Bool} : d_are_forms [.sh (iD n), .sh (.tuple [encF n A, encF n B])] = yes := by
  have hl : lcD [2] (itS (vA 1)) (gN 2) lcTest0 (cal (calling 2 d_is_relation_of) (aC (vA 0) (aC (vA 2) a0))) [.sh (iD n), .sh (.tuple [encF n A, encF n B]), .no] = .ret (.own ([A, B].map fun _ => PyData.bool true)) := by
    refine lcD_eq (ds := [A, B].map (encF n)) rfl rfl (lcN1 (e := encF n) _ [A, B] fun X _ => ?_)
    simp only [runD, seqD, ifD, setD, asgD, forD, parD, par3D, setV, extD, appD, ownAt, vD, vA, oA, kA, fzA, bin, tB, tNot, tAnd, tOr, nA, andA, orA, ifA, chA, a0, aC, b0, bC, cal, calK, isA, is2A, slA, o0, oI, ixL, itS, itZ, itE, gN, g0, lamA, xO, sNil, sRet, sEx, sErr, sBk, sCt, sShare, bind_ret, bind_err, slA0, slAp, slAf, slAs, slD0, slDo, slDs, calling, toB, toD, toS, toI, frz, dataA, allS, mkTup, mkLst, itemsL, itemsT, share, share1, tupG, consG, List.append_nil, List.replicate, List.getElem?_cons_zero, List.getElem?_cons_succ, List.cons_append, List.nil_append, Nat.sub_self, List.length_cons, List.length_nil, List.set_cons_zero, List.set_cons_succ, List.foldl_cons, List.foldl_nil, if_true, if_false, ite_true, ite_false, reduceCtorEq, Nat.reduceAdd, Nat.reduceSub, Nat.reduceLeDiff, Bool.not_true, Bool.not_false, Bool.false_eq_true, pick, List.filterMap_cons, List.filterMap_nil, e_is_relation_of]
  have e : allD [.list ([A, B].map fun _ => PyData.bool true)] = yes := all_true _
  simp only [q_are_forms, b_are_forms, runD, seqD, ifD, setD, asgD, forD, parD, par3D, setV, extD, appD, ownAt, vD, vA, oA, kA, fzA, bin, tB, tNot, tAnd, tOr, nA, andA, orA, ifA, chA, a0, aC, b0, bC, cal, calK, isA, is2A, slA, o0, oI, ixL, itS, itZ, itE, gN, g0, lamA, xO, sNil, sRet, sEx, sErr, sBk, sCt, sShare, bind_ret, bind_err, slA0, slAp, slAf, slAs, slD0, slDo, slDs, calling, toB, toD, toS, toI, frz, dataA, allS, mkTup, mkLst, itemsL, itemsT, share, share1, tupG, consG, List.append_nil, List.replicate, List.getElem?_cons_zero, List.getElem?_cons_succ, List.cons_append, List.nil_append, Nat.sub_self, List.length_cons, List.length_nil, List.set_cons_zero, List.set_cons_succ, List.foldl_cons, List.foldl_nil, if_true, if_false, ite_true, ite_false, reduceCtorEq, Nat.reduceAdd, Nat.reduceSub, Nat.reduceLeDiff, Bool.not_true, Bool.not_false, Bool.false_eq_true, pick, List.filterMap_cons, List.filterMap_nil, e_is_tuple2, hl, e]
theorem ix_0 {x y : PyData} : ixD (.tuple [x, y]) (.int 0) = .ret (.sh x) := ix_tup (i := 0) rfl
theorem ix_1 {x y : PyData} : ixD (.tuple [x, y]) (.int 1) = .ret (.sh y) := ix_tup (i := 1) rfl
theorem isStr (a : Str) : isTy "str" (.str a) = true := by simp [isTy, tyName]
/-- names told -/
theorem e_is_names {n : Nat} {R S : Nat → Nat → Bool} {d : PyData} {p : List Nat} (h1 : 1 ≤ n) (h2 : n ≤ 6) (h : Perm n p) (hs : IsSeq d p) : d_is_alike_paper [.sh (encF n R), .sh (encF n S), .sh (.tuple [.str "names", d])] = .ret (.sh (.bool (eqF n (act p R) S))) := by
  have e : (AV.sh (.list (p.map iD))) = .sh (encN p) := rfl
  simp only [q_is_alike_paper, b_is_alike_paper, runD, seqD, ifD, setD, asgD, forD, parD, par3D, setV, extD, appD, ownAt, vD, vA, oA, kA, fzA, bin, tB, tNot, tAnd, tOr, nA, andA, orA, ifA, chA, a0, aC, b0, bC, cal, calK, isA, is2A, slA, o0, oI, ixL, itS, itZ, itE, gN, g0, lamA, xO, sNil, sRet, sEx, sErr, sBk, sCt, sShare, bind_ret, bind_err, slA0, slAp, slAf, slAs, slD0, slDo, slDs, calling, toB, toD, toS, toI, frz, dataA, allS, mkTup, mkLst, itemsL, itemsT, share, share1, tupG, consG, List.append_nil, List.replicate, List.getElem?_cons_zero, List.getElem?_cons_succ, List.cons_append, List.nil_append, Nat.sub_self, List.length_cons, List.length_nil, List.set_cons_zero, List.set_cons_succ, List.foldl_cons, List.foldl_nil, if_true, if_false, ite_true, ite_false, reduceCtorEq, Nat.reduceAdd, Nat.reduceSub, Nat.reduceLeDiff, Bool.not_true, Bool.not_false, Bool.false_eq_true, pick, List.filterMap_cons, List.filterMap_nil, e_want_two h1 h2, e_is_tuple2, ix_0, isStr, eq_S, decide_true, ix_1, len_F, e_are_names_value h hs (show n ≤ 1000 by omega), hs.list, e, e_renamed_of (show n ≤ 100000 by omega) h.names, eq_F]
/-- forms told -/
theorem e_is_forms {n : Nat} {R S A B : Nat → Nat → Bool} (h1 : 1 ≤ n) (h2 : n ≤ 6) : d_is_alike_paper [.sh (encF n R), .sh (encF n S), .sh (.tuple [.str "forms", .tuple [encF n A, encF n B]])] =
    .ret (.sh (.bool (!eqF n A B && decide (PyData.tuple [encF n A, encF n B] = .tuple [minF n R, minF n S])))) := by
  have e1 : decide (("forms" : Str) = ("names" : Str)) = false := decide_eq_false (by decide)
  have e2 := eqA_d (ok_two (ok_encF n A) (ok_encF n B)) (ok_two (ok_min n R) (ok_min n S))
  cases h : eqF n A B with
  | true => simp only [q_is_alike_paper, b_is_alike_paper, runD, seqD, ifD, setD, asgD, forD, parD, par3D, setV, extD, appD, ownAt, vD, vA, oA, kA, fzA, bin, tB, tNot, tAnd, tOr, nA, andA, orA, ifA, chA, a0, aC, b0, bC, cal, calK, isA, is2A, slA, o0, oI, ixL, itS, itZ, itE, gN, g0, lamA, xO, sNil, sRet, sEx, sErr, sBk, sCt, sShare, bind_ret, bind_err, slA0, slAp, slAf, slAs, slD0, slDo, slDs, calling, toB, toD, toS, toI, frz, dataA, allS, mkTup, mkLst, itemsL, itemsT, share, share1, tupG, consG, List.append_nil, List.replicate, List.getElem?_cons_zero, List.getElem?_cons_succ, List.cons_append, List.nil_append, Nat.sub_self, List.length_cons, List.length_nil, List.set_cons_zero, List.set_cons_succ, List.foldl_cons, List.foldl_nil, if_true, if_false, ite_true, ite_false, reduceCtorEq, Nat.reduceAdd, Nat.reduceSub, Nat.reduceLeDiff, Bool.not_true, Bool.not_false, Bool.false_eq_true, pick, List.filterMap_cons, List.filterMap_nil, e_want_two h1 h2, e_is_tuple2, ix_0, isStr, eq_S, e1, ne_S, decide_true, ix_1, len_F, e_are_forms, ne_F, h, Bool.false_and]
  | false => simp only [q_is_alike_paper, b_is_alike_paper, runD, seqD, ifD, setD, asgD, forD, parD, par3D, setV, extD, appD, ownAt, vD, vA, oA, kA, fzA, bin, tB, tNot, tAnd, tOr, nA, andA, orA, ifA, chA, a0, aC, b0, bC, cal, calK, isA, is2A, slA, o0, oI, ixL, itS, itZ, itE, gN, g0, lamA, xO, sNil, sRet, sEx, sErr, sBk, sCt, sShare, bind_ret, bind_err, slA0, slAp, slAf, slAs, slD0, slDo, slDs, calling, toB, toD, toS, toI, frz, dataA, allS, mkTup, mkLst, itemsL, itemsT, share, share1, tupG, consG, List.append_nil, List.replicate, List.getElem?_cons_zero, List.getElem?_cons_succ, List.cons_append, List.nil_append, Nat.sub_self, List.length_cons, List.length_nil, List.set_cons_zero, List.set_cons_succ, List.foldl_cons, List.foldl_nil, if_true, if_false, ite_true, ite_false, reduceCtorEq, Nat.reduceAdd, Nat.reduceSub, Nat.reduceLeDiff, Bool.not_true, Bool.not_false, Bool.false_eq_true, pick, List.filterMap_cons, List.filterMap_nil, e_want_two h1 h2, e_is_tuple2, ix_0, isStr, eq_S, e1, ne_S, decide_true, ix_1, len_F, e_are_forms, ne_F, h, e_form_of h2, tup2_4000, Nat.reduceLeDiff, e2, Bool.true_and]
end Mf
end
section
set_option Elab.async false
set_option linter.all false
set_option autoImplicit false
set_option maxRecDepth 100000
/-! R1: how long a text repr makes. -/
namespace Dn
open PySem PyProof.Rows

mutual
def wt : PyData → Nat
  | .none => 4
  | .bool _ => 5
  | .int i => (PyData.shown (.int i)).length
  | .str x => (PyData.shown (.str x)).length
  | .list xs => 5 + wtAll xs
  | .tuple xs => 5 + wtAll xs
  | .dict _ => 0
def wtAll : List PyData → Nat
  | [] => 0
  | x :: xs => wt x + 2 + wtAll xs
end
def sumL (ts : List Str) : Nat := (ts.map fun t => t.length + 2).sum
theorem textFrom_le : ∀ (ts : List Str) (k : Nat) (acc : Str), (textFrom k acc ts).length ≤ acc.length + sumL ts
  | [], k, acc => Nat.le_refl _
  | t :: r, k, acc => by
    have ih := textFrom_le r (k + 1) (acc ++ (if k > 0 then ", " else "" : String) ++ t)
    have e : (acc ++ (if k > 0 then ", " else "" : String) ++ t).length ≤ acc.length + 2 + t.length := by
      rw [Str.length_append, Str.length_append]
      split
      · have : ((", " : String) : Str).length = 2 := rfl
        omega
      · have : (("" : String) : Str).length = 0 := rfl
        omega
    have e2 : sumL (t :: r) = t.length + 2 + sumL r := by
      unfold sumL
      rw [List.map_cons, List.sum_cons]
    show (textFrom (k + 1) (acc ++ (if k > 0 then ", " else "" : String) ++ t) r).length ≤ _
    omega
theorem listText_le (ts : List Str) : (listText ts).length ≤ 2 + sumL ts := by
  have h := textFrom_le ts 0 "["
  unfold listText
  rw [Str.length_append]
  have e1 : (("[" : String) : Str).length = 1 := rfl
  have e2 : (("]" : String) : Str).length = 1 := rfl
  omega
theorem piled_sum : ∀ ts : List Str, piled ts = sumL ts
  | [] => rfl
  | t :: r => by
    have ih := piled_sum r
    unfold sumL at ih ⊢
    rw [List.map_cons, List.sum_cons, ← ih]
    unfold piled
    simp
theorem tupleText_le (ts : List Str) : (tupleText ts).length ≤ 5 + sumL ts := by
  unfold tupleText
  rw [Str.length_append, Str.length_append]
  have e1 : (("(" : String) : Str).length = 1 := rfl
  have h2 : ((if ts.length == 1 then ",)" else ")" : String) : Str).length ≤ 2 := by
    split
    · exact Nat.le_refl 2
    · show 1 ≤ 2
      omega
  cases ts with
  | nil =>
    have : (Str.join ", " []).length = 0 := rfl
    omega
  | cons t r =>
    have := join_length_add (t :: r) (by simp)
    rw [piled_sum] at this
    omega
mutual
theorem shown_le : ∀ d : PyData, d.hasDict = false → d.shown.length ≤ wt d
  | .none, _ => by
    rw [wt, PyData.shown]
    decide
  | .bool b, _ => by
    rw [wt, PyData.shown]
    cases b <;> decide
  | .int i, _ => by
    rw [wt]
    exact Nat.le_refl _
  | .str x, _ => by
    rw [wt]
    exact Nat.le_refl _
  | .list xs, h => by
    rw [PyData.hasDict] at h
    have := shownAll_le xs h
    have q := listText_le (PyData.shownAll xs)
    rw [wt, PyData.shown]
    omega
  | .tuple xs, h => by
    rw [PyData.hasDict] at h
    have := shownAll_le xs h
    have q := tupleText_le (PyData.shownAll xs)
    rw [wt, PyData.shown]
    omega
  | .dict _, h => by
    rw [PyData.hasDict] at h
    cases h
theorem shownAll_le : ∀ xs : List PyData, PyData.hasDictAll xs = false → sumL (PyData.shownAll xs) ≤ wtAll xs
  | [], _ => Nat.le_refl _
  | x :: xs, h => by
    rw [PyData.hasDictAll, Bool.or_eq_false_iff] at h
    have h1 := shown_le x h.1
    have h2 := shownAll_le xs h.2
    have e : sumL (PyData.shownAll (x :: xs)) = x.shown.length + 2 + sumL (PyData.shownAll xs) := by
      rw [PyData.shownAll]
      unfold sumL
      rw [List.map_cons, List.sum_cons]
    rw [e, wtAll]
    omega
end
/-- data whose text is short -/
def Rp (k m : Nat) (d : PyData) : Prop := d.showable = true ∧ d.hasDict = false ∧ d.depth ≤ m ∧ wt d ≤ k
theorem rp_all {k m : Nat} : ∀ {xs : List PyData}, (∀ x ∈ xs, Rp k m x) → PyData.showableAll xs = true ∧ PyData.hasDictAll xs = false ∧ PyData.depthAll xs ≤ m ∧ wtAll xs ≤ xs.length * (k + 2)
  | [], _ => ⟨by rw [PyData.showableAll], by rw [PyData.hasDictAll], by rw [PyData.depthAll]; exact Nat.zero_le _, Nat.zero_le _⟩
  | x :: xs, h => by
    obtain ⟨a1, a2, a3, a4⟩ := h x List.mem_cons_self
    obtain ⟨b1, b2, b3, b4⟩ := rp_all fun y hy => h y (List.mem_cons_of_mem _ hy)
    refine ⟨by rw [PyData.showableAll, a1, b1]; rfl, by rw [PyData.hasDictAll, a2, b2]; rfl, by rw [PyData.depthAll]; exact Nat.max_le.mpr ⟨a3, b3⟩, ?_⟩
    rw [wtAll, List.length_cons, Nat.add_mul, Nat.one_mul]
    omega
theorem Rp.list {k m n : Nat} {xs : List PyData} (h : ∀ x ∈ xs, Rp k m x) (hn : xs.length ≤ n) : Rp (5 + n * (k + 2)) (m + 1) (.list xs) := by
  obtain ⟨h1, h2, h3, h4⟩ := rp_all h
  refine ⟨by rw [PyData.showable]; exact h1, by rw [PyData.hasDict]; exact h2, by rw [PyData.depth]; omega, ?_⟩
  rw [wt]
  have := Nat.mul_le_mul_right (k + 2) hn
  omega
theorem Rp.tuple {k m n : Nat} {xs : List PyData} (h : ∀ x ∈ xs, Rp k m x) (hn : xs.length ≤ n) : Rp (5 + n * (k + 2)) (m + 1) (.tuple xs) := by
  obtain ⟨h1, h2, h3, h4⟩ := rp_all h
  refine ⟨by rw [PyData.showable]; exact h1, by rw [PyData.hasDict]; exact h2, by rw [PyData.depth]; omega, ?_⟩
  rw [wt]
  have := Nat.mul_le_mul_right (k + 2) hn
  omega
theorem Rp.mono {k k' m m' : Nat} {d : PyData} (h : Rp k m d) (hk : k ≤ k') (hm : m ≤ m') : Rp k' m' d := ⟨h.1, h.2.1, Nat.le_trans h.2.2.1 hm, Nat.le_trans h.2.2.2 hk⟩
theorem Rp.two {k m : Nat} {x y : PyData} (hx : Rp k m x) (hy : Rp k m y) : ∀ z ∈ [x, y], Rp k m z := fun z hz => by
  rcases List.mem_cons.mp hz with rfl | hz
  · exact hx
  · rw [List.mem_singleton.mp hz]
    exact hy
theorem digit_len : ∀ a : Fin 100, (PyData.shown (.int ((a.val : Nat) : Int))).length ≤ 2 := by decide +kernel
theorem Rp.digit {a : Nat} (h : a < 100) : Rp 2 0 (.int (a : Int)) := by
  refine ⟨?_, by rw [PyData.hasDict], by rw [PyData.depth]; exact Nat.le_refl 0, by rw [wt]; exact digit_len ⟨a, h⟩⟩
  rw [PyData.showable]
  have : ((a : Int)).natAbs.log2 ≤ a := by
    rw [Int.natAbs_natCast]
    exact Nat.log2_le_self a
  exact decide_eq_true (by omega)
theorem Rp.bool (b : Bool) : Rp 5 0 (.bool b) := ⟨by rw [PyData.showable], by rw [PyData.hasDict], by rw [PyData.depth]; exact Nat.le_refl 0, by rw [wt]; exact Nat.le_refl 5⟩
/-- repr of a list -/
theorem repr_list {k m : Nat} {xs : List PyData} (h : Rp k m (.list xs)) (hk : k ≤ 16000000) (hm : m ≤ 64) : reprD [.list xs] = .ret (.sh (.str (PyData.shown (.list xs)))) := by
  obtain ⟨h1, h2, h3, h4⟩ := h
  have h5 := shown_le _ h2
  have hs : (16000000 : Nat) ≤ sizeLine := by decide
  show (if ((isRef (.list xs) && PyData.showable (.list xs)) && ((!PyData.hasDict (.list xs) && decide (PyData.depth (.list xs) ≤ 64)) && decide ((PyData.shown (.list xs)).length ≤ sizeLine))) = true then _ else _) = _
  rw [h1, h2, decide_eq_true (Nat.le_trans h3 hm), decide_eq_true (show (PyData.shown (.list xs)).length ≤ sizeLine by omega)]
  rfl
end Dn
end
section
set_option Elab.async false
set_option linter.all false
set_option autoImplicit false
set_option maxRecDepth 100000
/-! M14: two relations asked. -/
namespace Mf
open PySem Dn Wk
open Classical

theorem rp_T {l : List Nat} {n : Nat} (h : ∀ a ∈ l, a < 100) (hl : l.length ≤ n) : Rp (5 + n * 4) 1 (encT l) := Rp.tuple (k := 2) (m := 0) (fun x hx => by
  obtain ⟨a, ha, rfl⟩ := List.mem_map.mp hx
  exact Rp.digit (h a ha)) (by rw [List.length_map]; exact hl)
theorem rp_N {l : List Nat} {n : Nat} (h : ∀ a ∈ l, a < 100) (hl : l.length ≤ n) : Rp (5 + n * 4) 1 (encN l) := Rp.list (k := 2) (m := 0) (fun x hx => by
  obtain ⟨a, ha, rfl⟩ := List.mem_map.mp hx
  exact Rp.digit (h a ha)) (by rw [List.length_map]; exact hl)
theorem rp_F {n : Nat} (R : Nat → Nat → Bool) (hn : n ≤ 6) : Rp 300 2 (encF n R) := (Rp.tuple (k := 5 + 6 * 4) (m := 1) (n := 6) (fun x hx => by
  obtain ⟨i, hi, rfl⟩ := List.mem_map.mp hx
  refine rp_T (fun a ha => by have := (mem_row.mp ha).1; omega) ?_
  exact Nat.le_trans (List.length_filter_le _ _) (by rw [List.length_range]; exact hn)) (by rw [List.length_map, List.length_range]; exact hn)).mono (by decide) (by decide)
theorem rp_min {n : Nat} (R : Nat → Nat → Bool) (hn : n ≤ 6) : Rp 300 2 (minF n R) := by
  obtain ⟨S, e⟩ := minF_form n R
  rw [e]
  exact rp_F S hn
theorem rp_names : Rp 20 0 (.str "names") := ⟨by rw [PyData.showable], by rw [PyData.hasDict], by rw [PyData.depth]; exact Nat.le_refl 0, by rw [wt]; decide +kernel⟩
theorem rp_forms : Rp 20 0 (.str "forms") := ⟨by rw [PyData.showable], by rw [PyData.hasDict], by rw [PyData.depth]; exact Nat.le_refl 0, by rw [wt]; decide +kernel⟩
theorem rp_paper {n : Nat} (R S : Nat → Nat → Bool) (hn : n ≤ 6) : Rp 2000 4 (paper n R S) := by
  unfold paper
  cases h : same n R S with
  | nil =>
    have h2 : Rp 700 3 (.tuple [minF n R, minF n S]) := (Rp.tuple (n := 2) (Rp.two (rp_min R hn) (rp_min S hn)) (by simp)).mono (by decide) (by decide)
    exact (Rp.tuple (n := 2) (Rp.two (rp_forms.mono (k' := 700) (m' := 3) (by decide) (by decide)) h2) (by simp)).mono (by decide) (by decide)
  | cons p l =>
    have hp : Perm n p := by
      have : p ∈ same n R S := by rw [h]; simp
      exact mem_perms.mp (List.mem_filter.mp this).1
    have h2 : Rp 700 3 (encN p) := (rp_N (n := 6) (fun a ha => by have := hp.lt a ha; omega) (by rw [hp.len]; exact hn)).mono (by decide) (by decide)
    exact (Rp.tuple (n := 2) (Rp.two (rp_names.mono (k' := 700) (m' := 3) (by decide) (by decide)) h2) (by simp)).mono (by decide) (by decide)
theorem repr2 {k m : Nat} {x y : PyData} (hx : Rp k m x) (hy : Rp k m y) (hk : k ≤ 1000000) (hm : m ≤ 60) : reprD [.list [x, y]] = .ret (.sh (.str (PyData.shown (.list [x, y])))) :=
  repr_list (Rp.list (n := 2) (Rp.two hx hy) (by simp)) (by omega) (by omega)
/-- the word of the paper -/
def word (n : Nat) (R S : Nat → Nat → Bool) : Str := if (same n R S).isEmpty = true then "forms" else "names"
theorem paper_word (n : Nat) (R S : Nat → Nat → Bool) : ∃ b, paper n R S = .tuple [.str (word n R S), b] ∧ ((same n R S).isEmpty = true → b = .tuple [minF n R, minF n S]) := by
  unfold paper word
  cases h : same n R S with
  | nil => exact ⟨_, rfl, fun _ => rfl⟩
  | cons p l => exact ⟨_, rfl, fun z => by cases z⟩
theorem empty_iff {n : Nat} {R S : Nat → Nat → Bool} : (same n R S).isEmpty = true ↔ ¬ Alike n R S := by
  rw [← same_iff]
  cases same n R S <;> simp
theorem word_symm {n : Nat} {R S : Nat → Nat → Bool} : word n S R = word n R S := by
  unfold word
  have : (same n S R).isEmpty = (same n R S).isEmpty := by
    cases h : (same n R S).isEmpty with
    | true => exact empty_iff.mpr fun z => empty_iff.mp h z.symm
    | false =>
      cases h2 : (same n S R).isEmpty with
      | false => rfl
      | true => exact absurd (empty_iff.mpr fun z => empty_iff.mp h2 z.symm) (by rw [h]; simp)
  rw [this]
theorem paper_right {n : Nat} {R S : Nat → Nat → Bool} (h1 : 1 ≤ n) (h2 : n ≤ 6) : d_is_alike_paper [.sh (encF n R), .sh (encF n S), .sh (paper n R S)] = yes := by
  unfold paper
  cases h : same n R S with
  | nil =>
    obtain ⟨X, eX⟩ := minF_form n R
    obtain ⟨Y, eY⟩ := minF_form n S
    show d_is_alike_paper [.sh (encF n R), .sh (encF n S), .sh (.tuple [.str "forms", .tuple [minF n R, minF n S]])] = yes
    have na : ¬ Alike n R S := empty_iff.mp (by rw [h]; rfl)
    have nf : eqF n X Y = false := by
      cases q : eqF n X Y with
      | false => rfl
      | true => exact absurd (minF_iff.mp (by rw [eX, eY]; exact encF_iff.mpr q)) na
    have e := e_is_forms (n := n) (R := R) (S := S) (A := X) (B := Y) h1 h2
    rw [← eX, ← eY] at e
    rw [e, nf, decide_eq_true rfl]
    rfl
  | cons p l =>
    have hp : p ∈ same n R S := by rw [h]; simp
    obtain ⟨q1, q2⟩ := List.mem_filter.mp hp
    show d_is_alike_paper [.sh (encF n R), .sh (encF n S), .sh (.tuple [.str "names", encN p])] = yes
    rw [e_is_names h1 h2 (mem_perms.mp q1) (.inl rfl), q2]
theorem forms_right {n : Nat} {R S X Y : Nat → Nat → Bool} (h1 : 1 ≤ n) (h2 : n ≤ 6) : d_is_alike_paper [.sh (encF n R), .sh (encF n S), .sh (.tuple [.str "forms", .tuple [encF n X, encF n Y]])] =
    .ret (.sh (.bool (decide (PyData.tuple [encF n X, encF n Y] = .tuple [minF n R, minF n S]) && !decide (minF n R = minF n S)))) := by
  rw [e_is_forms h1 h2]
  congr 3
  by_cases h : PyData.tuple [encF n X, encF n Y] = .tuple [minF n R, minF n S]
  · rw [decide_eq_true h, Bool.and_true, Bool.true_and]
    have h := PyData.tuple.inj h
    rw [List.cons.injEq, List.cons.injEq] at h
    congr 1
    rw [← h.1, ← h.2.1]
    cases q : eqF n X Y with
    | true => exact (decide_eq_true (encF_iff.mpr q)).symm
    | false => exact (decide_eq_false fun z => by rw [encF_iff.mp z] at q; cases q).symm
  · rw [decide_eq_false h, Bool.and_false, Bool.false_and]
/-- a loop, its turns counted -/
theorem forHI {g : PyData → Dn.Env → T Dn.Env} {body : Dn.Env → T Out} (K : Nat) (I : Nat → Dn.Env → Prop) : ∀ (ds : List PyData) (k : Nat) (ρ : Dn.Env), k + ds.length ≤ K → I k ρ → (∀ k ρ, k < K → I k ρ → ∀ d ∈ ds, Hold (g d ρ) fun ρ1 => Hold (body ρ1) fun o => ∃ ρ', o = .nx ρ' ∧ I (k + 1) ρ') →
    Hold (forItems g body ds ρ) fun o => ∃ ρ', o = .nx ρ' ∧ I (k + ds.length) ρ'
  | [], k, ρ, _, hI, _ => ⟨ρ, rfl, hI⟩
  | d :: ds, k, ρ, hK, hI, hb => by
    rw [List.length_cons] at hK
    refine Hold.bind' ((hb k ρ (by omega) hI d List.mem_cons_self).mono fun ρ1 h => Hold.bind' (h.mono fun o ⟨ρ', ho, hI'⟩ => ?_))
    subst ho
    have ih := forHI K I ds (k + 1) ρ' (by omega) hI' fun k ρ hk h d hd => hb k ρ hk h d (List.mem_cons_of_mem _ hd)
    rw [show k + 1 + ds.length = k + (d :: ds).length by rw [List.length_cons]; omega] at ih
    exact ih
end Mf
end
section
set_option Elab.async false
set_option linter.all false
set_option autoImplicit false
set_option maxRecDepth 100000
/-! M15: two relations asked, the walk through the law's def. -/
namespace Mf
open PySem Dn Wk
open Classical

section
variable {n : Nat} {R S : Nat → Nat → Bool}
/-- the slots -/
abbrev en (n : Nat) (R S : Nat → Nat → Bool) (s3 s4 s6 s7 s8 s9 s10 s11 s12 s13 s14 s16 : AV) : Dn.Env := [.pot, .sh (encF n R), .sh (encF n S), s3, s4, .sh (iD n), s6, s7, s8, s9, s10, s11, s12, s13, s14, .no, s16]
abbrev shown0 (n : Nat) (R S : Nat → Nat → Bool) : AV := .sh (.str (PyData.shown (.list [encF n R, encF n S])))
theorem r_AB (h2 : n ≤ 6) : reprD [.list [encF n R, encF n S]] = .ret (shown0 n R S) := repr2 (rp_F R h2) (rp_F S h2) (by decide) (by decide)
abbrev W1 : Dn.Env → T Out := par3D 3 4 5 (fzA (cal reprD (bC (oA (cal mkLst (aC (vA 1) (aC (vA 2) (a0))))) (b0)))) (cal mkLst (a0)) (fzA (cal lenD (bC (vD 1) (b0))))
theorem w1 (h2 : n ≤ 6) : W1 [.pot, .sh (encF n R), .sh (encF n S), .no, .no, .no, .no, .no, .no, .no, .no, .no, .no, .no, .no, .no, .no] = .ret (.nx (en n R S (shown0 n R S) (.own []) .no .no .no .no .no .no .no .no .no .no)) := by
  have e : decide ((2 : Nat) ≤ 4000) = true := by decide
  simp only [W1, en, runD, seqD, ifD, setD, asgD, forD, parD, par3D, setV, extD, appD, ownAt, vD, vA, oA, kA, fzA, bin, tB, tNot, tAnd, tOr, nA, andA, orA, ifA, chA, a0, aC, b0, bC, cal, calK, isA, is2A, slA, o0, oI, ixL, itS, itZ, itE, gN, g0, lamA, xO, sNil, sRet, sEx, sErr, sBk, sCt, sShare, bind_ret, bind_err, slA0, slAp, slAf, slAs, slD0, slDo, slDs, calling, toB, toD, toS, toI, frz, dataA, allS, mkTup, mkLst, itemsL, itemsT, share, share1, tupG, consG, List.append_nil, List.replicate, List.getElem?_cons_zero, List.getElem?_cons_succ, List.cons_append, List.nil_append, Nat.sub_self, List.length_cons, List.length_nil, List.set_cons_zero, List.set_cons_succ, List.foldl_cons, List.foldl_nil, if_true, if_false, ite_true, ite_false, reduceCtorEq, Nat.reduceAdd, Nat.reduceSub, Nat.reduceLeDiff, Bool.not_true, Bool.not_false, Bool.false_eq_true, pick, List.filterMap_cons, List.filterMap_nil, Nat.zero_le, r_AB h2, len_F]
noncomputable abbrev W2 : Dn.Env → T Out := setD 6 (lcD [7] (itS (cal (calling 1 d__law_all_names) (aC (vA 5) (a0)))) (gN 7) (tB (bin eqA (oA (cal (calling 2 d__law_renamed) (aC (vA 1) (aC (vA 7) (a0))))) (vD 2))) (vA 7))
theorem w2 (h2 : n ≤ 6) : W2 (en n R S (shown0 n R S) (.own []) .no .no .no .no .no .no .no .no .no .no) = .ret (.nx (en n R S (shown0 n R S) (.own []) (.own ((same n R S).map encN)) .no .no .no .no .no .no .no .no .no)) := by
  refine (set_ok (av := .own ((same n R S).map encN)) ?_ (by intro z; cases z)).trans rfl
  refine lcD_eq (ds := (perms n).map encN) ?_ rfl (lcN (e := encN) _ encN (perms n) (fun p hp => ?_) fun p _ _ => rfl)
  · simp only [en, runD, seqD, ifD, setD, asgD, forD, parD, par3D, setV, extD, appD, ownAt, vD, vA, oA, kA, fzA, bin, tB, tNot, tAnd, tOr, nA, andA, orA, ifA, chA, a0, aC, b0, bC, cal, calK, isA, is2A, slA, o0, oI, ixL, itS, itZ, itE, gN, g0, lamA, xO, sNil, sRet, sEx, sErr, sBk, sCt, sShare, bind_ret, bind_err, slA0, slAp, slAf, slAs, slD0, slDo, slDs, calling, toB, toD, toS, toI, frz, dataA, allS, mkTup, mkLst, itemsL, itemsT, share, share1, tupG, consG, List.append_nil, List.replicate, List.getElem?_cons_zero, List.getElem?_cons_succ, List.cons_append, List.nil_append, Nat.sub_self, List.length_cons, List.length_nil, List.set_cons_zero, List.set_cons_succ, List.foldl_cons, List.foldl_nil, if_true, if_false, ite_true, ite_false, reduceCtorEq, Nat.reduceAdd, Nat.reduceSub, Nat.reduceLeDiff, Bool.not_true, Bool.not_false, Bool.false_eq_true, pick, List.filterMap_cons, List.filterMap_nil, e__law_all_names h2]
  · simp only [en, runD, seqD, ifD, setD, asgD, forD, parD, par3D, setV, extD, appD, ownAt, vD, vA, oA, kA, fzA, bin, tB, tNot, tAnd, tOr, nA, andA, orA, ifA, chA, a0, aC, b0, bC, cal, calK, isA, is2A, slA, o0, oI, ixL, itS, itZ, itE, gN, g0, lamA, xO, sNil, sRet, sEx, sErr, sBk, sCt, sShare, bind_ret, bind_err, slA0, slAp, slAf, slAs, slD0, slDo, slDs, calling, toB, toD, toS, toI, frz, dataA, allS, mkTup, mkLst, itemsL, itemsT, share, share1, tupG, consG, List.append_nil, List.replicate, List.getElem?_cons_zero, List.getElem?_cons_succ, List.cons_append, List.nil_append, Nat.sub_self, List.length_cons, List.length_nil, List.set_cons_zero, List.set_cons_succ, List.foldl_cons, List.foldl_nil, if_true, if_false, ite_true, ite_false, reduceCtorEq, Nat.reduceAdd, Nat.reduceSub, Nat.reduceLeDiff, Bool.not_true, Bool.not_false, Bool.false_eq_true, pick, List.filterMap_cons, List.filterMap_nil, e__law_renamed (R := R) (mem_perms.mp hp), eq_F]
noncomputable abbrev W3 : Dn.Env → T Out := parD 8 9 (fzA (cal (calling 1 d__law_first) (aC (vA 1) (a0)))) (fzA (cal (calling 1 d__law_first) (aC (vA 2) (a0))))
theorem w3 (h2 : n ≤ 6) {x3 x4 x6 : AV} : W3 (en n R S x3 x4 x6 .no .no .no .no .no .no .no .no .no) = .ret (.nx (en n R S x3 x4 x6 .no (.sh (minF n R)) (.sh (minF n S)) .no .no .no .no .no .no)) := by
  simp only [W3, en, runD, seqD, ifD, setD, asgD, forD, parD, par3D, setV, extD, appD, ownAt, vD, vA, oA, kA, fzA, bin, tB, tNot, tAnd, tOr, nA, andA, orA, ifA, chA, a0, aC, b0, bC, cal, calK, isA, is2A, slA, o0, oI, ixL, itS, itZ, itE, gN, g0, lamA, xO, sNil, sRet, sEx, sErr, sBk, sCt, sShare, bind_ret, bind_err, slA0, slAp, slAf, slAs, slD0, slDo, slDs, calling, toB, toD, toS, toI, frz, dataA, allS, mkTup, mkLst, itemsL, itemsT, share, share1, tupG, consG, List.append_nil, List.replicate, List.getElem?_cons_zero, List.getElem?_cons_succ, List.cons_append, List.nil_append, Nat.sub_self, List.length_cons, List.length_nil, List.set_cons_zero, List.set_cons_succ, List.foldl_cons, List.foldl_nil, if_true, if_false, ite_true, ite_false, reduceCtorEq, Nat.reduceAdd, Nat.reduceSub, Nat.reduceLeDiff, Bool.not_true, Bool.not_false, Bool.false_eq_true, pick, List.filterMap_cons, List.filterMap_nil, e__law_first h2]
abbrev W4 : Dn.Env → T Out := setD 10 (fzA (ifA (tB (bin neA (vD 6) (oA (cal mkLst (a0))))) (cal mkTup (aC (kA (.str "names")) (aC (bin ixD (vD 6) (oA (kA (.int 0)))) (a0)))) (cal mkTup (aC (kA (.str "forms")) (aC (cal mkTup (aC (vA 8) (aC (vA 9) (a0)))) (a0))))))
theorem w4 {x3 x4 : AV} : W4 (en n R S x3 x4 (.own ((same n R S).map encN)) .no (.sh (minF n R)) (.sh (minF n S)) .no .no .no .no .no .no) = .ret (.nx (en n R S x3 x4 (.own ((same n R S).map encN)) .no (.sh (minF n R)) (.sh (minF n S)) (.sh (paper n R S)) .no .no .no .no .no)) := by
  unfold paper
  cases h : same n R S with
  | nil =>
    have e : neA (.list []) (.list []) = .ret (.sh (.bool false)) := ne_nil (l := [])
    simp only [W4, en, runD, seqD, ifD, setD, asgD, forD, parD, par3D, setV, extD, appD, ownAt, vD, vA, oA, kA, fzA, bin, tB, tNot, tAnd, tOr, nA, andA, orA, ifA, chA, a0, aC, b0, bC, cal, calK, isA, is2A, slA, o0, oI, ixL, itS, itZ, itE, gN, g0, lamA, xO, sNil, sRet, sEx, sErr, sBk, sCt, sShare, bind_ret, bind_err, slA0, slAp, slAf, slAs, slD0, slDo, slDs, calling, toB, toD, toS, toI, frz, dataA, allS, mkTup, mkLst, itemsL, itemsT, share, share1, tupG, consG, List.append_nil, List.replicate, List.getElem?_cons_zero, List.getElem?_cons_succ, List.cons_append, List.nil_append, Nat.sub_self, List.length_cons, List.length_nil, List.set_cons_zero, List.set_cons_succ, List.foldl_cons, List.foldl_nil, if_true, if_false, ite_true, ite_false, reduceCtorEq, Nat.reduceAdd, Nat.reduceSub, Nat.reduceLeDiff, Bool.not_true, Bool.not_false, Bool.false_eq_true, pick, List.filterMap_cons, List.filterMap_nil, List.map_nil, Nat.zero_le, e]
  | cons p l =>
    have e : neA (.list (encN p :: l.map encN)) (.list []) = .ret (.sh (.bool true)) := ne_nil (l := p :: l)
    have e2 : ixD (.list (encN p :: l.map encN)) (.int 0) = .ret (.sh (encN p)) := ix_list (i := 0) rfl
    simp only [W4, en, runD, seqD, ifD, setD, asgD, forD, parD, par3D, setV, extD, appD, ownAt, vD, vA, oA, kA, fzA, bin, tB, tNot, tAnd, tOr, nA, andA, orA, ifA, chA, a0, aC, b0, bC, cal, calK, isA, is2A, slA, o0, oI, ixL, itS, itZ, itE, gN, g0, lamA, xO, sNil, sRet, sEx, sErr, sBk, sCt, sShare, bind_ret, bind_err, slA0, slAp, slAf, slAs, slD0, slDo, slDs, calling, toB, toD, toS, toI, frz, dataA, allS, mkTup, mkLst, itemsL, itemsT, share, share1, tupG, consG, List.append_nil, List.replicate, List.getElem?_cons_zero, List.getElem?_cons_succ, List.cons_append, List.nil_append, Nat.sub_self, List.length_cons, List.length_nil, List.set_cons_zero, List.set_cons_succ, List.foldl_cons, List.foldl_nil, if_true, if_false, ite_true, ite_false, reduceCtorEq, Nat.reduceAdd, Nat.reduceSub, Nat.reduceLeDiff, Bool.not_true, Bool.not_false, Bool.false_eq_true, pick, List.filterMap_cons, List.filterMap_nil, List.map_cons, Nat.zero_le, e, e2]
/-- behind the papers -/
abbrev eq5 (n : Nat) (R S : Nat → Nat → Bool) (ws s7 s12 s13 s14 s16 : AV) : Dn.Env := en n R S (shown0 n R S) ws (.own ((same n R S).map encN)) s7 (.sh (minF n R)) (.sh (minF n S)) (.sh (paper n R S)) (.sh (paper n R S)) s12 s13 s14 s16
noncomputable abbrev W5 : Dn.Env → T Out := setD 11 (fzA (cal (calling 2 d_alike_paper) (aC (vA 1) (aC (vA 2) (a0)))))
theorem w5 (h1 : 1 ≤ n) (h2 : n ≤ 6) : W5 (en n R S (shown0 n R S) (.own []) (.own ((same n R S).map encN)) .no (.sh (minF n R)) (.sh (minF n S)) (.sh (paper n R S)) .no .no .no .no .no) = .ret (.nx (eq5 n R S (.own []) .no .no .no .no .no)) := by
  simp only [W5, eq5, en, runD, seqD, ifD, setD, asgD, forD, parD, par3D, setV, extD, appD, ownAt, vD, vA, oA, kA, fzA, bin, tB, tNot, tAnd, tOr, nA, andA, orA, ifA, chA, a0, aC, b0, bC, cal, calK, isA, is2A, slA, o0, oI, ixL, itS, itZ, itE, gN, g0, lamA, xO, sNil, sRet, sEx, sErr, sBk, sCt, sShare, bind_ret, bind_err, slA0, slAp, slAf, slAs, slD0, slDo, slDs, calling, toB, toD, toS, toI, frz, dataA, allS, mkTup, mkLst, itemsL, itemsT, share, share1, tupG, consG, List.append_nil, List.replicate, List.getElem?_cons_zero, List.getElem?_cons_succ, List.cons_append, List.nil_append, Nat.sub_self, List.length_cons, List.length_nil, List.set_cons_zero, List.set_cons_succ, List.foldl_cons, List.foldl_nil, if_true, if_false, ite_true, ite_false, reduceCtorEq, Nat.reduceAdd, Nat.reduceSub, Nat.reduceLeDiff, Bool.not_true, Bool.not_false, Bool.false_eq_true, pick, List.filterMap_cons, List.filterMap_nil, e_alike_paper h1 h2]
noncomputable abbrev W6 : Dn.Env → T Out := ifD (tOr (tB (bin neA (oA (cal reprD (bC (oA (cal mkLst (aC (vA 11) (aC (calK 2 d_alike_paper [1, 0] (aC (vA 2) (aC (vA 1) (a0)))) (a0))))) (b0)))) (oA (cal reprD (bC (oA (cal mkLst (aC (vA 10) (aC (vA 10) (a0))))) (b0)))))) (tOr (tB (bin (isBD not) (oA (cal (calling 3 d_is_alike_paper) (aC (vA 1) (aC (vA 2) (aC (vA 11) (a0)))))) (oA (kA (.bool true))))) (tB (bin neA (oA (cal (calling 2 d_are_alike) (aC (vA 1) (aC (vA 2) (a0))))) (oA (bin neA (vD 6) (oA (cal mkLst (a0))))))))) (sRet (kA (.bool false))) (sNil)
theorem w6 (h1 : 1 ≤ n) (h2 : n ≤ 6) {ws s7 s12 s13 s14 s16 : AV} : W6 (eq5 n R S ws s7 s12 s13 s14 s16) = .ret (.nx (eq5 n R S ws s7 s12 s13 s14 s16)) := by
  have r : reprD [.list [paper n R S, paper n R S]] = .ret (.sh (.str (PyData.shown (.list [paper n R S, paper n R S])))) := repr2 (rp_paper R S h2) (rp_paper R S h2) (by decide) (by decide)
  have e : isBD not (.bool true) (.bool true) = .ret (.sh (.bool false)) := rfl
  have e2 : ∀ b : Bool, neA (.bool b) (.bool b) = .ret (.sh (.bool false)) := fun b => by cases b <;> rfl
  simp only [W6, eq5, en, runD, seqD, ifD, setD, asgD, forD, parD, par3D, setV, extD, appD, ownAt, vD, vA, oA, kA, fzA, bin, tB, tNot, tAnd, tOr, nA, andA, orA, ifA, chA, a0, aC, b0, bC, cal, calK, isA, is2A, slA, o0, oI, ixL, itS, itZ, itE, gN, g0, lamA, xO, sNil, sRet, sEx, sErr, sBk, sCt, sShare, bind_ret, bind_err, slA0, slAp, slAf, slAs, slD0, slDo, slDs, calling, toB, toD, toS, toI, frz, dataA, allS, mkTup, mkLst, itemsL, itemsT, share, share1, tupG, consG, List.append_nil, List.replicate, List.getElem?_cons_zero, List.getElem?_cons_succ, List.cons_append, List.nil_append, Nat.sub_self, List.length_cons, List.length_nil, List.set_cons_zero, List.set_cons_succ, List.foldl_cons, List.foldl_nil, if_true, if_false, ite_true, ite_false, reduceCtorEq, Nat.reduceAdd, Nat.reduceSub, Nat.reduceLeDiff, Bool.not_true, Bool.not_false, Bool.false_eq_true, pick, List.filterMap_cons, List.filterMap_nil, Nat.zero_le, e_alike_paper h1 h2, r, ne_S, decide_true, paper_right h1 h2, e, e_are_alike h1 h2, ne_nil, e2]
end
end Mf
end
section
set_option Elab.async false
set_option linter.all false
set_option autoImplicit false
set_option maxRecDepth 100000
/-! M16: the loops of the law's def. -/
namespace Mf
open PySem Dn Wk
open Classical

section
variable {n : Nat} {R S : Nat → Nat → Bool}
theorem rg_n (hn : n ≤ 1000) : rgD .own (iD n) = .ret (.own ((List.range n).map iD)) := by
  show (if _ then _ else _) = _
  rw [if_pos (by omega), Int.toNat_natCast, upFrom0]
theorem fold_N {l : List Nat} : PyData.list (l.map iD) = encN l := rfl
theorem word_names (h : Alike n R S) : word n R S = "names" := by
  unfold word
  rw [if_neg (fun z => empty_iff.mp z h)]
theorem word_forms (h : ¬ Alike n R S) : word n R S = "forms" := by
  unfold word
  rw [if_pos (empty_iff.mpr h)]
theorem repr_bb {b : Bool} : reprD [.list [.bool b, .bool b]] = .ret (.sh (.str (PyData.shown (.list [.bool b, .bool b])))) := repr2 (Rp.bool b) (Rp.bool b) (by decide) (by decide)
noncomputable abbrev B7a : Dn.Env → T Out := setD 7 (fzA (cal (calling 2 d__law_pick) (aC (vA 0) (aC (cal mkLst (aC (cal (calling 2 d__law_mixed) (aC (vA 0) (aC (cal (rgD .own) (vD 5)) (a0)))) (aC (ifA (tB (bin neA (vD 6) (oA (cal mkLst (a0))))) (bin ixD (vD 6) (oA (kA (.int 0)))) (cal (rgD .own) (vD 5))) (a0)))) (a0)))))
theorem b7a0 (h2 : n ≤ 6) {x3 ws s7 x8 x9 x10 x11 s12 s13 : AV} (l : List (List Nat)) (hl : ∀ q ∈ l, Perm n q) : Hold (B7a (en n R S x3 ws (.own (l.map encN)) s7 x8 x9 x10 x11 s12 s13 .no .no)) fun o => ∃ p, Perm n p ∧ o = .nx (en n R S x3 ws (.own (l.map encN)) (.sh (encN p)) x8 x9 x10 x11 s12 s13 .no .no) := by
  have fin : ∀ p q, Perm n p → Perm n q → Hold (d__law_pick [.pot, .sh (.list [encN p, encN q])]) fun av => frz av ≠ .no ∧ ∃ p', Perm n p' ∧ Out.nx ((en n R S x3 ws (.own (l.map encN)) s7 x8 x9 x10 x11 s12 s13 .no .no).set 7 (frz av)) = .nx (en n R S x3 ws (.own (l.map encN)) (.sh (encN p')) x8 x9 x10 x11 s12 s13 .no .no) := fun p q hp hq => by
    refine (e__law_pick (by simp) (by simp)).mono ?_
    rintro _ ⟨d, hd, rfl⟩
    refine ⟨(by intro z; cases z), ?_⟩
    rcases List.mem_cons.mp hd with rfl | hd
    · exact ⟨p, hp, rfl⟩
    · rw [List.mem_singleton.mp hd]
      exact ⟨q, hq, rfl⟩
  have z0 : (0 : Nat) ≤ 4000 := by omega
  refine hset (hfz ?_)
  cases l with
  | nil =>
    have e : neA (.list []) (.list []) = .ret (.sh (.bool false)) := ne_nil (l := [])
    simp only [en, runD, seqD, ifD, setD, asgD, forD, parD, par3D, setV, extD, appD, ownAt, vD, vA, oA, kA, fzA, bin, tB, tNot, tAnd, tOr, nA, andA, orA, ifA, chA, a0, aC, b0, bC, cal, calK, isA, is2A, slA, o0, oI, ixL, itS, itZ, itE, gN, g0, lamA, xO, sNil, sRet, sEx, sErr, sBk, sCt, sShare, bind_ret, bind_err, slA0, slAp, slAf, slAs, slD0, slDo, slDs, calling, toB, toD, toS, toI, frz, dataA, allS, mkTup, mkLst, itemsL, itemsT, share, share1, tupG, consG, List.append_nil, List.replicate, List.getElem?_cons_zero, List.getElem?_cons_succ, List.cons_append, List.nil_append, Nat.sub_self, List.length_cons, List.length_nil, List.set_cons_zero, List.set_cons_succ, List.foldl_cons, List.foldl_nil, if_true, if_false, ite_true, ite_false, reduceCtorEq, Nat.reduceAdd, Nat.reduceSub, Nat.reduceLeDiff, Bool.not_true, Bool.not_false, Bool.false_eq_true, pick, List.filterMap_cons, List.filterMap_nil, rg_n (show n ≤ 1000 by omega), fold_N, List.map_nil, e, z0]
    simp only [bind_assoc]
    refine Hold.bind' ((e__law_mixed h2).mono ?_)
    rintro _ ⟨p, hp, rfl⟩
    simp only [runD, seqD, ifD, setD, asgD, forD, parD, par3D, setV, extD, appD, ownAt, vD, vA, oA, kA, fzA, bin, tB, tNot, tAnd, tOr, nA, andA, orA, ifA, chA, a0, aC, b0, bC, cal, calK, isA, is2A, slA, o0, oI, ixL, itS, itZ, itE, gN, g0, lamA, xO, sNil, sRet, sEx, sErr, sBk, sCt, sShare, bind_ret, bind_err, slA0, slAp, slAf, slAs, slD0, slDo, slDs, calling, toB, toD, toS, toI, frz, dataA, allS, mkTup, mkLst, itemsL, itemsT, share, share1, tupG, consG, List.append_nil, List.replicate, List.getElem?_cons_zero, List.getElem?_cons_succ, List.cons_append, List.nil_append, Nat.sub_self, List.length_cons, List.length_nil, List.set_cons_zero, List.set_cons_succ, List.foldl_cons, List.foldl_nil, if_true, if_false, ite_true, ite_false, reduceCtorEq, Nat.reduceAdd, Nat.reduceSub, Nat.reduceLeDiff, Bool.not_true, Bool.not_false, Bool.false_eq_true, pick, List.filterMap_cons, List.filterMap_nil]
    exact fin p (List.range n) hp (perm_id n)
  | cons r l =>
    have e : neA (.list (encN r :: l.map encN)) (.list []) = .ret (.sh (.bool true)) := ne_nil (l := r :: l)
    have e2 : ixD (.list (encN r :: l.map encN)) (.int 0) = .ret (.sh (encN r)) := ix_list (i := 0) rfl
    simp only [en, runD, seqD, ifD, setD, asgD, forD, parD, par3D, setV, extD, appD, ownAt, vD, vA, oA, kA, fzA, bin, tB, tNot, tAnd, tOr, nA, andA, orA, ifA, chA, a0, aC, b0, bC, cal, calK, isA, is2A, slA, o0, oI, ixL, itS, itZ, itE, gN, g0, lamA, xO, sNil, sRet, sEx, sErr, sBk, sCt, sShare, bind_ret, bind_err, slA0, slAp, slAf, slAs, slD0, slDo, slDs, calling, toB, toD, toS, toI, frz, dataA, allS, mkTup, mkLst, itemsL, itemsT, share, share1, tupG, consG, List.append_nil, List.replicate, List.getElem?_cons_zero, List.getElem?_cons_succ, List.cons_append, List.nil_append, Nat.sub_self, List.length_cons, List.length_nil, List.set_cons_zero, List.set_cons_succ, List.foldl_cons, List.foldl_nil, if_true, if_false, ite_true, ite_false, reduceCtorEq, Nat.reduceAdd, Nat.reduceSub, Nat.reduceLeDiff, Bool.not_true, Bool.not_false, Bool.false_eq_true, pick, List.filterMap_cons, List.filterMap_nil, rg_n (show n ≤ 1000 by omega), fold_N, List.map_cons, e, e2, z0]
    simp only [bind_assoc]
    refine Hold.bind' ((e__law_mixed h2).mono ?_)
    rintro _ ⟨p, hp, rfl⟩
    simp only [runD, seqD, ifD, setD, asgD, forD, parD, par3D, setV, extD, appD, ownAt, vD, vA, oA, kA, fzA, bin, tB, tNot, tAnd, tOr, nA, andA, orA, ifA, chA, a0, aC, b0, bC, cal, calK, isA, is2A, slA, o0, oI, ixL, itS, itZ, itE, gN, g0, lamA, xO, sNil, sRet, sEx, sErr, sBk, sCt, sShare, bind_ret, bind_err, slA0, slAp, slAf, slAs, slD0, slDo, slDs, calling, toB, toD, toS, toI, frz, dataA, allS, mkTup, mkLst, itemsL, itemsT, share, share1, tupG, consG, List.append_nil, List.replicate, List.getElem?_cons_zero, List.getElem?_cons_succ, List.cons_append, List.nil_append, Nat.sub_self, List.length_cons, List.length_nil, List.set_cons_zero, List.set_cons_succ, List.foldl_cons, List.foldl_nil, if_true, if_false, ite_true, ite_false, reduceCtorEq, Nat.reduceAdd, Nat.reduceSub, Nat.reduceLeDiff, Bool.not_true, Bool.not_false, Bool.false_eq_true, pick, List.filterMap_cons, List.filterMap_nil]
    exact fin p r hp (hl r (by simp))
theorem same_perm : ∀ q ∈ same n R S, Perm n q := fun q hq => mem_perms.mp (List.mem_filter.mp hq).1
noncomputable abbrev B7b : Dn.Env → T Out := setD 13 (fzA (bin eqA (oA (cal (calling 2 d__law_renamed) (aC (vA 1) (aC (vA 7) (a0))))) (vD 2)))
theorem b7b {p : List Nat} (hp : Perm n p) {ws s12 s13 s14 s16 : AV} : B7b (eq5 n R S ws (.sh (encN p)) s12 s13 s14 s16) = .ret (.nx (eq5 n R S ws (.sh (encN p)) s12 (.sh (.bool (eqF n (act p R) S))) s14 s16)) := by
  simp only [B7b, eq5, en, runD, seqD, ifD, setD, asgD, forD, parD, par3D, setV, extD, appD, ownAt, vD, vA, oA, kA, fzA, bin, tB, tNot, tAnd, tOr, nA, andA, orA, ifA, chA, a0, aC, b0, bC, cal, calK, isA, is2A, slA, o0, oI, ixL, itS, itZ, itE, gN, g0, lamA, xO, sNil, sRet, sEx, sErr, sBk, sCt, sShare, bind_ret, bind_err, slA0, slAp, slAf, slAs, slD0, slDo, slDs, calling, toB, toD, toS, toI, frz, dataA, allS, mkTup, mkLst, itemsL, itemsT, share, share1, tupG, consG, List.append_nil, List.replicate, List.getElem?_cons_zero, List.getElem?_cons_succ, List.cons_append, List.nil_append, Nat.sub_self, List.length_cons, List.length_nil, List.set_cons_zero, List.set_cons_succ, List.foldl_cons, List.foldl_nil, if_true, if_false, ite_true, ite_false, reduceCtorEq, Nat.reduceAdd, Nat.reduceSub, Nat.reduceLeDiff, Bool.not_true, Bool.not_false, Bool.false_eq_true, pick, List.filterMap_cons, List.filterMap_nil, e__law_renamed (R := R) hp, eq_F]
noncomputable abbrev B7c : Dn.Env → T Out := ifD (tB (bin neA (oA (cal reprD (bC (oA (cal mkLst (aC (cal (calling 3 d_is_alike_paper) (aC (vA 1) (aC (vA 2) (aC (cal mkTup (aC (kA (.str "names")) (aC (cal listD (bC (vD 7) (b0))) (a0)))) (a0))))) (aC (calK 3 d_is_alike_paper [2, 1, 0] (aC (cal mkTup (aC (kA (.str "names")) (aC (cal tupleD (bC (vD 7) (b0))) (a0)))) (aC (vA 2) (aC (vA 1) (a0))))) (a0))))) (b0)))) (oA (cal reprD (bC (oA (cal mkLst (aC (vA 13) (aC (vA 13) (a0))))) (b0)))))) (sRet (kA (.bool false))) (sNil)
theorem b7c (h1 : 1 ≤ n) (h2 : n ≤ 6) {p : List Nat} (hp : Perm n p) {ws s12 s14 s16 : AV} : B7c (eq5 n R S ws (.sh (encN p)) s12 (.sh (.bool (eqF n (act p R) S))) s14 s16) = .ret (.nx (eq5 n R S ws (.sh (encN p)) s12 (.sh (.bool (eqF n (act p R) S))) s14 s16)) := by
  have l1 : listD [encN p] = .ret (.own (p.map iD)) := rfl
  have l2 : tupleD [encN p] = .ret (.sh (encT p)) := rfl
  have e1 := e_is_names (R := R) (S := S) h1 h2 hp (.inl rfl)
  have e2 := e_is_names (R := R) (S := S) h1 h2 hp (.inr rfl)
  simp only [B7c, eq5, en, runD, seqD, ifD, setD, asgD, forD, parD, par3D, setV, extD, appD, ownAt, vD, vA, oA, kA, fzA, bin, tB, tNot, tAnd, tOr, nA, andA, orA, ifA, chA, a0, aC, b0, bC, cal, calK, isA, is2A, slA, o0, oI, ixL, itS, itZ, itE, gN, g0, lamA, xO, sNil, sRet, sEx, sErr, sBk, sCt, sShare, bind_ret, bind_err, slA0, slAp, slAf, slAs, slD0, slDo, slDs, calling, toB, toD, toS, toI, frz, dataA, allS, mkTup, mkLst, itemsL, itemsT, share, share1, tupG, consG, List.append_nil, List.replicate, List.getElem?_cons_zero, List.getElem?_cons_succ, List.cons_append, List.nil_append, Nat.sub_self, List.length_cons, List.length_nil, List.set_cons_zero, List.set_cons_succ, List.foldl_cons, List.foldl_nil, if_true, if_false, ite_true, ite_false, reduceCtorEq, Nat.reduceAdd, Nat.reduceSub, Nat.reduceLeDiff, Bool.not_true, Bool.not_false, Bool.false_eq_true, pick, List.filterMap_cons, List.filterMap_nil, Nat.zero_le, l1, l2, fold_N, e1, e2, repr_bb, ne_S, decide_true]
/-- a word more -/
theorem ext_word {k : Nat} {ws : List PyData} {s7 s12 s14 s16 : AV} {b : Bool} {x : Str} (hl : ws.length ≤ k) (hk : k ≤ 1000) (hw : ∀ w ∈ ws, w = .str (word n R S)) (hb : b = true → x = word n R S) :
    ∃ ws', extD 4 (ifA (tB (vA 13)) (cal mkLst (aC (kA (.str x)) (a0))) (cal mkLst (a0))) (eq5 n R S (.own ws) s7 s12 (.sh (.bool b)) s14 s16) = .ret (.nx (eq5 n R S (.own ws') s7 s12 (.sh (.bool b)) s14 s16)) ∧ ws'.length ≤ k + 1 ∧ ∀ w ∈ ws', w = .str (word n R S) := by
  cases b with
  | true =>
    refine ⟨ws ++ [.str x], ?_, by rw [List.length_append]; simp; omega, fun w hw2 => ?_⟩
    · show (if ws.length + [PyData.str x].length ≤ 1000000 then _ else _) = _
      rw [if_pos (by simp; omega)]
      rfl
    · rcases List.mem_append.mp hw2 with hw2 | hw2
      · exact hw w hw2
      · rw [List.mem_singleton.mp hw2, hb rfl]
  | false =>
    refine ⟨ws, ?_, by omega, hw⟩
    show (if ws.length + ([] : List PyData).length ≤ 1000000 then _ else _) = _
    rw [if_pos (by simp; omega)]
    show T.ret (Out.nx (eq5 n R S (.own (ws ++ [])) s7 s12 (.sh (.bool false)) s14 s16)) = _
    rw [List.append_nil]
theorem gN_hold {v : Nat} {d : PyData} {ρ : Dn.Env} {p : Dn.Env → Prop} : Hold (gN v d ρ) p ↔ p (ρ.set v (.sh d)) := Iff.rfl
noncomputable def B7 : Dn.Env → T Out := seqD B7a (seqD B7b (seqD B7c (extD 4 (ifA (tB (vA 13)) (cal mkLst (aC (kA (.str "names")) (a0))) (cal mkLst (a0))))))
def I7 (n : Nat) (R S : Nat → Nat → Bool) (k : Nat) (ρ : Dn.Env) : Prop := ∃ ws s7 s12 s13, ρ = eq5 n R S (.own ws) s7 s12 s13 .no .no ∧ ws.length ≤ k ∧ ∀ w ∈ ws, w = .str (word n R S)
theorem step7 (h1 : 1 ≤ n) (h2 : n ≤ 6) {k : Nat} {ws : List PyData} {s7 s12 s13 : AV} (hl : ws.length ≤ k) (hk : k ≤ 1000) (hw : ∀ w ∈ ws, w = .str (word n R S)) : Hold (B7 (eq5 n R S (.own ws) s7 s12 s13 .no .no)) fun o => ∃ ρ', o = .nx ρ' ∧ I7 n R S (k + 1) ρ' := by
  unfold B7
  refine hseq ?_
  have q := b7a0 (R := R) (S := S) h2 (x3 := shown0 n R S) (ws := .own ws) (s7 := s7) (x8 := .sh (minF n R)) (x9 := .sh (minF n S)) (x10 := .sh (paper n R S)) (x11 := .sh (paper n R S)) (s12 := s12) (s13 := s13) (same n R S) same_perm
  refine q.mono ?_
  rintro o ⟨p, hp, ho⟩
  refine ⟨_, ho, ?_⟩
  have q2 := b7b (R := R) (S := S) hp (ws := .own ws) (s12 := s12) (s13 := s13) (s14 := .no) (s16 := .no)
  have q3 := b7c (R := R) (S := S) h1 h2 hp (ws := .own ws) (s12 := s12) (s14 := .no) (s16 := .no)
  obtain ⟨ws', e1, e2, e3⟩ := ext_word (n := n) (R := R) (S := S) (s7 := .sh (encN p)) (s12 := s12) (s14 := .no) (s16 := .no) (b := eqF n (act p R) S) (x := "names") hl hk hw fun hb => (word_names ⟨p, hp, hb⟩).symm
  have t := (seq_nx (g := seqD B7c (extD 4 (ifA (tB (vA 13)) (cal mkLst (aC (kA (.str "names")) (a0))) (cal mkLst (a0))))) q2).trans ((seq_nx q3).trans e1)
  exact hold_of t ⟨_, rfl, ws', .sh (encN p), s12, .sh (.bool (eqF n (act p R) S)), rfl, e2, e3⟩
theorem w7 (h1 : 1 ≤ n) (h2 : n ≤ 6) {ρ : Dn.Env} (hI : I7 n R S 0 ρ) : Hold (forD (itR (oA (kA (.int 5)))) (gN 12) B7 ρ) fun o => ∃ ρ', o = .nx ρ' ∧ I7 n R S 5 ρ' := by
  have e : itR (oA (kA (.int 5))) ρ = .ret ((List.range 5).map iD) := itR_n (n := 5) rfl (by omega)
  unfold forD
  rw [e, bind_ret]
  have main := forHI (g := gN 12) (body := B7) 5 (I7 n R S) ((List.range 5).map iD) 0 ρ (by simp) hI (by
    intro k ρ hk hI d _
    obtain ⟨ws, s7, s12, s13, e, hl, hw⟩ := hI
    rw [gN_hold, e, show (eq5 n R S (.own ws) s7 s12 s13 .no .no).set 12 (.sh d) = eq5 n R S (.own ws) s7 (.sh d) s13 .no .no from rfl]
    have hk' : k ≤ 1000 := by omega
    exact step7 (n := n) (R := R) (S := S) (k := k) (ws := ws) (s7 := s7) (s12 := .sh d) (s13 := s13) h1 h2 hl hk' hw)
  rw [List.length_map, List.length_range, Nat.zero_add] at main
  exact main
/-! ### the forms -/
noncomputable abbrev B8a : Dn.Env → T Out := setD 13 (fzA (andA (bin eqA (vD 14) (oA (cal mkTup (aC (vA 8) (aC (vA 9) (a0)))))) (bin neA (vD 8) (vD 9))))
abbrev two (x y : PyData) : PyData := .tuple [x, y]
theorem b8a {X Y : Nat → Nat → Bool} {ws s7 s12 s13 s16 : AV} : B8a (eq5 n R S ws s7 s12 s13 (.sh (two (encF n X) (encF n Y))) s16) = .ret (.nx (eq5 n R S ws s7 s12 (.sh (.bool (decide (two (encF n X) (encF n Y) = two (minF n R) (minF n S)) && !decide (minF n R = minF n S)))) (.sh (two (encF n X) (encF n Y))) s16)) := by
  have e1 := eqA_d (ok_two (ok_encF n X) (ok_encF n Y)) (ok_two (ok_min n R) (ok_min n S))
  have e2 := neA_d (ok_min n R) (ok_min n S)
  cases h : decide (two (encF n X) (encF n Y) = two (minF n R) (minF n S)) with
  | true =>
    have e1 : eqA (.tuple [encF n X, encF n Y]) (.tuple [minF n R, minF n S]) = .ret (.sh (.bool true)) := e1.trans (by rw [h])
    simp only [B8a, eq5, en, runD, seqD, ifD, setD, asgD, forD, parD, par3D, setV, extD, appD, ownAt, vD, vA, oA, kA, fzA, bin, tB, tNot, tAnd, tOr, nA, andA, orA, ifA, chA, a0, aC, b0, bC, cal, calK, isA, is2A, slA, o0, oI, ixL, itS, itZ, itE, gN, g0, lamA, xO, sNil, sRet, sEx, sErr, sBk, sCt, sShare, bind_ret, bind_err, slA0, slAp, slAf, slAs, slD0, slDo, slDs, calling, toB, toD, toS, toI, frz, dataA, allS, mkTup, mkLst, itemsL, itemsT, share, share1, tupG, consG, List.append_nil, List.replicate, List.getElem?_cons_zero, List.getElem?_cons_succ, List.cons_append, List.nil_append, Nat.sub_self, List.length_cons, List.length_nil, List.set_cons_zero, List.set_cons_succ, List.foldl_cons, List.foldl_nil, if_true, if_false, ite_true, ite_false, reduceCtorEq, Nat.reduceAdd, Nat.reduceSub, Nat.reduceLeDiff, Bool.not_true, Bool.not_false, Bool.false_eq_true, pick, List.filterMap_cons, List.filterMap_nil, e1, e2, Bool.true_and]
  | false =>
    have e1 : eqA (.tuple [encF n X, encF n Y]) (.tuple [minF n R, minF n S]) = .ret (.sh (.bool false)) := e1.trans (by rw [h])
    simp only [B8a, eq5, en, runD, seqD, ifD, setD, asgD, forD, parD, par3D, setV, extD, appD, ownAt, vD, vA, oA, kA, fzA, bin, tB, tNot, tAnd, tOr, nA, andA, orA, ifA, chA, a0, aC, b0, bC, cal, calK, isA, is2A, slA, o0, oI, ixL, itS, itZ, itE, gN, g0, lamA, xO, sNil, sRet, sEx, sErr, sBk, sCt, sShare, bind_ret, bind_err, slA0, slAp, slAf, slAs, slD0, slDo, slDs, calling, toB, toD, toS, toI, frz, dataA, allS, mkTup, mkLst, itemsL, itemsT, share, share1, tupG, consG, List.append_nil, List.replicate, List.getElem?_cons_zero, List.getElem?_cons_succ, List.cons_append, List.nil_append, Nat.sub_self, List.length_cons, List.length_nil, List.set_cons_zero, List.set_cons_succ, List.foldl_cons, List.foldl_nil, if_true, if_false, ite_true, ite_false, reduceCtorEq, Nat.reduceAdd, Nat.reduceSub, Nat.reduceLeDiff, Bool.not_true, Bool.not_false, Bool.false_eq_true, pick, List.filterMap_cons, List.filterMap_nil, e1, Bool.false_and]
noncomputable abbrev B8b : Dn.Env → T Out := ifD (tB (bin neA (oA (cal reprD (bC (oA (cal mkLst (aC (cal (calling 3 d_is_alike_paper) (aC (vA 1) (aC (vA 2) (aC (cal mkTup (aC (kA (.str "forms")) (aC (vA 14) (a0)))) (a0))))) (aC (calK 3 d_is_alike_paper [2, 1, 0] (aC (cal mkTup (aC (kA (.str "forms")) (aC (vA 14) (a0)))) (aC (vA 2) (aC (vA 1) (a0))))) (a0))))) (b0)))) (oA (cal reprD (bC (oA (cal mkLst (aC (vA 13) (aC (vA 13) (a0))))) (b0)))))) (sRet (kA (.bool false))) (sNil)
theorem b8b (h1 : 1 ≤ n) (h2 : n ≤ 6) {X Y : Nat → Nat → Bool} {ws s7 s12 s16 : AV} :
    B8b (eq5 n R S ws s7 s12 (.sh (.bool (decide (two (encF n X) (encF n Y) = two (minF n R) (minF n S)) && !decide (minF n R = minF n S)))) (.sh (two (encF n X) (encF n Y))) s16) = .ret (.nx (eq5 n R S ws s7 s12 (.sh (.bool (decide (two (encF n X) (encF n Y) = two (minF n R) (minF n S)) && !decide (minF n R = minF n S)))) (.sh (two (encF n X) (encF n Y))) s16)) := by
  have e := forms_right (R := R) (S := S) (X := X) (Y := Y) h1 h2
  simp only [B8b, eq5, en, runD, seqD, ifD, setD, asgD, forD, parD, par3D, setV, extD, appD, ownAt, vD, vA, oA, kA, fzA, bin, tB, tNot, tAnd, tOr, nA, andA, orA, ifA, chA, a0, aC, b0, bC, cal, calK, isA, is2A, slA, o0, oI, ixL, itS, itZ, itE, gN, g0, lamA, xO, sNil, sRet, sEx, sErr, sBk, sCt, sShare, bind_ret, bind_err, slA0, slAp, slAf, slAs, slD0, slDo, slDs, calling, toB, toD, toS, toI, frz, dataA, allS, mkTup, mkLst, itemsL, itemsT, share, share1, tupG, consG, List.append_nil, List.replicate, List.getElem?_cons_zero, List.getElem?_cons_succ, List.cons_append, List.nil_append, Nat.sub_self, List.length_cons, List.length_nil, List.set_cons_zero, List.set_cons_succ, List.foldl_cons, List.foldl_nil, if_true, if_false, ite_true, ite_false, reduceCtorEq, Nat.reduceAdd, Nat.reduceSub, Nat.reduceLeDiff, Bool.not_true, Bool.not_false, Bool.false_eq_true, pick, List.filterMap_cons, List.filterMap_nil, Nat.zero_le, e, repr_bb, ne_S, decide_true]
noncomputable def B8 : Dn.Env → T Out := seqD B8a (seqD B8b (extD 4 (ifA (tB (vA 13)) (cal mkLst (aC (kA (.str "forms")) (a0))) (cal mkLst (a0)))))
def I8 (n : Nat) (R S : Nat → Nat → Bool) (k : Nat) (ρ : Dn.Env) : Prop := ∃ ws s7 s12 s13 s14, ρ = eq5 n R S (.own ws) s7 s12 s13 s14 .no ∧ ws.length ≤ k ∧ ∀ w ∈ ws, w = .str (word n R S)
abbrev itF : Dn.Env → T (List PyData) := itS (cal mkLst (aC (cal mkTup (aC (vA 8) (aC (vA 9) (a0)))) (aC (cal mkTup (aC (vA 9) (aC (vA 8) (a0)))) (aC (cal mkTup (aC (vA 1) (aC (vA 2) (a0)))) (aC (cal mkTup (aC (vA 8) (aC (vA 8) (a0)))) (aC (cal mkTup (aC (vA 8) (aC (vA 1) (a0)))) (a0)))))))
theorem step8 (h1 : 1 ≤ n) (h2 : n ≤ 6) {k : Nat} {ws : List PyData} {s7 s12 s13 : AV} {X Y : Nat → Nat → Bool} (hl : ws.length ≤ k) (hk : k ≤ 1000) (hw : ∀ w ∈ ws, w = .str (word n R S)) : Hold (B8 (eq5 n R S (.own ws) s7 s12 s13 (.sh (two (encF n X) (encF n Y))) .no)) fun o => ∃ ρ', o = .nx ρ' ∧ I8 n R S (k + 1) ρ' := by
  unfold B8
  have q1 := b8a (n := n) (R := R) (S := S) (X := X) (Y := Y) (ws := .own ws) (s7 := s7) (s12 := s12) (s13 := s13) (s16 := .no)
  have q2 := b8b (n := n) (R := R) (S := S) h1 h2 (X := X) (Y := Y) (ws := .own ws) (s7 := s7) (s12 := s12) (s16 := .no)
  obtain ⟨ws', e1, e2, e3⟩ := ext_word (n := n) (R := R) (S := S) (s7 := s7) (s12 := s12) (s14 := .sh (two (encF n X) (encF n Y))) (s16 := .no) (b := decide (two (encF n X) (encF n Y) = two (minF n R) (minF n S)) && !decide (minF n R = minF n S)) (x := "forms") hl hk hw fun hb => by
    rw [Bool.and_eq_true] at hb
    have hn : ¬ minF n R = minF n S := by simpa using hb.2
    exact (word_forms fun z => hn (minF_iff.mpr z)).symm
  have t := (seq_nx (g := seqD B8b (extD 4 (ifA (tB (vA 13)) (cal mkLst (aC (kA (.str "forms")) (a0))) (cal mkLst (a0))))) q1).trans ((seq_nx q2).trans e1)
  exact hold_of t ⟨_, rfl, ws', s7, s12, _, _, rfl, e2, e3⟩
def fs8 (n : Nat) (R S : Nat → Nat → Bool) : List PyData := [two (minF n R) (minF n S), two (minF n S) (minF n R), two (encF n R) (encF n S), two (minF n R) (minF n R), two (minF n R) (encF n R)]
theorem fs8_form : ∀ d ∈ fs8 n R S, ∃ X Y, d = two (encF n X) (encF n Y) := fun d hd => by
  obtain ⟨X, eX⟩ := minF_form n R
  obtain ⟨Y, eY⟩ := minF_form n S
  unfold fs8 at hd
  rw [eX, eY] at hd
  simp only [List.mem_cons, List.not_mem_nil, or_false] at hd
  rcases hd with rfl | rfl | rfl | rfl | rfl
  · exact ⟨_, _, rfl⟩
  · exact ⟨_, _, rfl⟩
  · exact ⟨_, _, rfl⟩
  · exact ⟨_, _, rfl⟩
  · exact ⟨_, _, rfl⟩
theorem fs8_len : (fs8 n R S).length = 5 := by
  unfold fs8
  simp only [List.length_cons, List.length_nil]
theorem itF_eq {ws s7 s12 s13 : AV} : itF (eq5 n R S ws s7 s12 s13 .no .no) = .ret (fs8 n R S) := by
  simp only [itF, eq5, en, runD, seqD, ifD, setD, asgD, forD, parD, par3D, setV, extD, appD, ownAt, vD, vA, oA, kA, fzA, bin, tB, tNot, tAnd, tOr, nA, andA, orA, ifA, chA, a0, aC, b0, bC, cal, calK, isA, is2A, slA, o0, oI, ixL, itS, itZ, itE, gN, g0, lamA, xO, sNil, sRet, sEx, sErr, sBk, sCt, sShare, bind_ret, bind_err, slA0, slAp, slAf, slAs, slD0, slDo, slDs, calling, toB, toD, toS, toI, frz, dataA, allS, mkTup, mkLst, itemsL, itemsT, share, share1, tupG, consG, List.append_nil, List.replicate, List.getElem?_cons_zero, List.getElem?_cons_succ, List.cons_append, List.nil_append, Nat.sub_self, List.length_cons, List.length_nil, List.set_cons_zero, List.set_cons_succ, List.foldl_cons, List.foldl_nil, if_true, if_false, ite_true, ite_false, reduceCtorEq, Nat.reduceAdd, Nat.reduceSub, Nat.reduceLeDiff, Bool.not_true, Bool.not_false, Bool.false_eq_true, pick, List.filterMap_cons, List.filterMap_nil, fs8, two]
theorem w8s (h1 : 1 ≤ n) (h2 : n ≤ 6) (k : Nat) (ρ : Dn.Env) (hk : k < 10) (hI : I8 n R S k ρ) (d : PyData) (hd : d ∈ fs8 n R S) : Hold (gN 14 d ρ) fun ρ1 => Hold (B8 ρ1) fun o => ∃ ρ', o = .nx ρ' ∧ I8 n R S (k + 1) ρ' := by
  obtain ⟨X, Y, hd⟩ := fs8_form d hd
  obtain ⟨ws, s7, s12, s13, s14, e, hl, hw⟩ := hI
  have hk' : k ≤ 1000 := by omega
  have q := step8 (n := n) (R := R) (S := S) (k := k) (ws := ws) (s7 := s7) (s12 := s12) (s13 := s13) (X := X) (Y := Y) h1 h2 hl hk' hw
  have es : ρ.set 14 (.sh d) = eq5 n R S (.own ws) s7 s12 s13 (.sh (two (encF n X) (encF n Y))) .no := by
    rw [e, hd]
    rfl
  rw [gN_hold, es]
  exact q
theorem w8 (h1 : 1 ≤ n) (h2 : n ≤ 6) {ρ : Dn.Env} (hI : I7 n R S 5 ρ) : Hold (forD itF (gN 14) B8 ρ) fun o => ∃ ρ', o = .nx ρ' ∧ I8 n R S 10 ρ' := by
  have e : itF ρ = .ret (fs8 n R S) := by
    obtain ⟨ws, s7, s12, s13, e0, hl, hw⟩ := hI
    rw [e0]
    exact itF_eq
  have h0 : I8 n R S 5 ρ := by
    obtain ⟨ws, s7, s12, s13, e0, hl, hw⟩ := hI
    exact ⟨ws, s7, s12, s13, .no, e0, hl, hw⟩
  unfold forD
  rw [e, bind_ret]
  have main := forHI (g := gN 14) (body := B8) 10 (I8 n R S) (fs8 n R S) 5 ρ (by rw [fs8_len]; omega) h0 (w8s h1 h2)
  rw [fs8_len] at main
  exact main
end
end Mf
end
section
set_option Elab.async false
set_option linter.all false
set_option autoImplicit false
set_option maxRecDepth 100000
set_option maxHeartbeats 1600000
/-! M17: the law's def on two relations is True. -/
namespace Mf
open PySem Dn Wk
open Classical

section
variable {n : Nat} {R S : Nat → Nat → Bool}
theorem map_id' (l : List PyData) : l.map (fun x => x) = l := List.map_id' l
abbrev lcW : Dn.Env → T AV := lcD [15] (itS (vA 4)) (gN 15) (tB (bin neA (vD 15) (oA (bin ixD (vD 11) (oA (kA (.int 0))))))) (vA 15)
theorem told0 : ixD (paper n R S) (.int 0) = .ret (.sh (.str (word n R S))) := by
  obtain ⟨b, e, _⟩ := paper_word n R S
  rw [e]
  exact ix_0
theorem lcw {ws : List PyData} (hw : ∀ w ∈ ws, w = .str (word n R S)) {s7 s12 s13 s14 s16 : AV} : lcW (eq5 n R S (.sh (.list ws)) s7 s12 s13 s14 s16) = .ret (.own []) := by
  have key : lcItems [15] (gN 15) (tB (bin neA (vD 15) (oA (bin ixD (vD 11) (oA (kA (.int 0))))))) (vA 15) (eq5 n R S (.sh (.list ws)) s7 s12 s13 s14 s16) (ws.map fun x => x) = .ret ((ws.filter fun _ => false).map fun x => x) := by
    refine lcN (e := fun x => x) (fun _ => false) (fun x => x) ws (fun w hw2 => ?_) (fun w _ z => by cases z)
    have e := hw w hw2
    subst e
    simp only [eq5, en, runD, seqD, ifD, setD, asgD, forD, parD, par3D, setV, extD, appD, ownAt, vD, vA, oA, kA, fzA, bin, tB, tNot, tAnd, tOr, nA, andA, orA, ifA, chA, a0, aC, b0, bC, cal, calK, isA, is2A, slA, o0, oI, ixL, itS, itZ, itE, gN, g0, lamA, xO, sNil, sRet, sEx, sErr, sBk, sCt, sShare, bind_ret, bind_err, slA0, slAp, slAf, slAs, slD0, slDo, slDs, calling, toB, toD, toS, toI, frz, dataA, allS, mkTup, mkLst, itemsL, itemsT, share, share1, tupG, consG, List.append_nil, List.replicate, List.getElem?_cons_zero, List.getElem?_cons_succ, List.cons_append, List.nil_append, Nat.sub_self, List.length_cons, List.length_nil, List.set_cons_zero, List.set_cons_succ, List.foldl_cons, List.foldl_nil, if_true, if_false, ite_true, ite_false, reduceCtorEq, Nat.reduceAdd, Nat.reduceSub, Nat.reduceLeDiff, Bool.not_true, Bool.not_false, Bool.false_eq_true, pick, List.filterMap_cons, List.filterMap_nil, told0, ne_S, decide_true]
  rw [map_id'] at key
  have e2 : (ws.filter fun _ => false).map (fun x : PyData => x) = [] := by
    rw [List.filter_eq_nil_iff.mpr (fun _ _ => by simp)]
    rfl
  rw [e2] at key
  exact lcD_eq (ds := ws) rfl rfl key
abbrev W9 : Dn.Env → T Out := sShare [4] (ifD (tB (bin neA (oA lcW) (oA (cal mkLst (a0))))) (sRet (kA (.bool false))) (sNil))
theorem w9 {ws : List PyData} (hw : ∀ w ∈ ws, w = .str (word n R S)) {s7 s12 s13 s14 s16 : AV} : W9 (eq5 n R S (.own ws) s7 s12 s13 s14 s16) = .ret (.nx (eq5 n R S (.sh (.list ws)) s7 s12 s13 s14 s16)) := by
  have e : neA (.list []) (.list []) = .ret (.sh (.bool false)) := ne_nil (l := [])
  have z0 : (0 : Nat) ≤ 4000 := by omega
  have h : ifD (tB (bin neA (oA lcW) (oA (cal mkLst (a0))))) (sRet (kA (.bool false))) (sNil) (eq5 n R S (.sh (.list ws)) s7 s12 s13 s14 s16) = .ret (.nx (eq5 n R S (.sh (.list ws)) s7 s12 s13 s14 s16)) := by
    refine (if_f (tB_ok ((bin_ok (oA_own (lcw hw)) (y := .list []) ?_).trans e))).trans rfl
    exact oA_own (ds := []) (by simp only [runD, seqD, ifD, setD, asgD, forD, parD, par3D, setV, extD, appD, ownAt, vD, vA, oA, kA, fzA, bin, tB, tNot, tAnd, tOr, nA, andA, orA, ifA, chA, a0, aC, b0, bC, cal, calK, isA, is2A, slA, o0, oI, ixL, itS, itZ, itE, gN, g0, lamA, xO, sNil, sRet, sEx, sErr, sBk, sCt, sShare, bind_ret, bind_err, slA0, slAp, slAf, slAs, slD0, slDo, slDs, calling, toB, toD, toS, toI, frz, dataA, allS, mkTup, mkLst, itemsL, itemsT, share, share1, tupG, consG, List.append_nil, List.replicate, List.getElem?_cons_zero, List.getElem?_cons_succ, List.cons_append, List.nil_append, Nat.sub_self, List.length_cons, List.length_nil, List.set_cons_zero, List.set_cons_succ, List.foldl_cons, List.foldl_nil, if_true, if_false, ite_true, ite_false, reduceCtorEq, Nat.reduceAdd, Nat.reduceSub, Nat.reduceLeDiff, Bool.not_true, Bool.not_false, Bool.false_eq_true, pick, List.filterMap_cons, List.filterMap_nil, z0])
  exact h
noncomputable abbrev W10 : Dn.Env → T Out := setD 16 (fzA (cal (calling 2 d_alike_paper) (aC (vA 2) (aC (vA 1) (a0)))))
theorem w10 (h1 : 1 ≤ n) (h2 : n ≤ 6) {ws s7 s12 s13 s14 : AV} : W10 (eq5 n R S ws s7 s12 s13 s14 .no) = .ret (.nx (eq5 n R S ws s7 s12 s13 s14 (.sh (paper n S R)))) := by
  simp only [W10, eq5, en, runD, seqD, ifD, setD, asgD, forD, parD, par3D, setV, extD, appD, ownAt, vD, vA, oA, kA, fzA, bin, tB, tNot, tAnd, tOr, nA, andA, orA, ifA, chA, a0, aC, b0, bC, cal, calK, isA, is2A, slA, o0, oI, ixL, itS, itZ, itE, gN, g0, lamA, xO, sNil, sRet, sEx, sErr, sBk, sCt, sShare, bind_ret, bind_err, slA0, slAp, slAf, slAs, slD0, slDo, slDs, calling, toB, toD, toS, toI, frz, dataA, allS, mkTup, mkLst, itemsL, itemsT, share, share1, tupG, consG, List.append_nil, List.replicate, List.getElem?_cons_zero, List.getElem?_cons_succ, List.cons_append, List.nil_append, Nat.sub_self, List.length_cons, List.length_nil, List.set_cons_zero, List.set_cons_succ, List.foldl_cons, List.foldl_nil, if_true, if_false, ite_true, ite_false, reduceCtorEq, Nat.reduceAdd, Nat.reduceSub, Nat.reduceLeDiff, Bool.not_true, Bool.not_false, Bool.false_eq_true, pick, List.filterMap_cons, List.filterMap_nil, e_alike_paper h1 h2]
abbrev W11 : Dn.Env → T Out := ifD (tOr (tB (bin neA (oA (bin ixD (vD 16) (oA (kA (.int 0))))) (oA (bin ixD (vD 11) (oA (kA (.int 0))))))) (tAnd (tB (bin eqA (oA (bin ixD (vD 11) (oA (kA (.int 0))))) (oA (kA (.str "forms"))))) (tB (bin neA (oA (bin ixD (vD 16) (oA (kA (.int 1))))) (oA (cal mkTup (aC (vA 9) (aC (vA 8) (a0))))))))) (sRet (kA (.bool false))) (sNil)
theorem w11 {ws s7 s12 s13 s14 : AV} : W11 (eq5 n R S ws s7 s12 s13 s14 (.sh (paper n S R))) = .ret (.nx (eq5 n R S ws s7 s12 s13 s14 (.sh (paper n S R)))) := by
  have e0 : ixD (paper n S R) (.int 0) = .ret (.sh (.str (word n R S))) := by rw [told0, word_symm]
  by_cases h : (same n R S).isEmpty = true
  · have hs : (same n S R).isEmpty = true := empty_iff.mpr fun z => empty_iff.mp h z.symm
    obtain ⟨b, e1, e2⟩ := paper_word n S R
    have e3 : ixD (paper n S R) (.int 1) = .ret (.sh (.tuple [minF n S, minF n R])) := by
      rw [e1, e2 hs]
      exact ix_1
    have e4 : word n R S = "forms" := by
      unfold word
      rw [if_pos h]
    have e5 : neA (.tuple [minF n S, minF n R]) (.tuple [minF n S, minF n R]) = .ret (.sh (.bool false)) := by
      rw [neA_d (ok_two (ok_min n S) (ok_min n R)) (ok_two (ok_min n S) (ok_min n R)), decide_eq_true rfl]
      rfl
    simp only [W11, eq5, en, runD, seqD, ifD, setD, asgD, forD, parD, par3D, setV, extD, appD, ownAt, vD, vA, oA, kA, fzA, bin, tB, tNot, tAnd, tOr, nA, andA, orA, ifA, chA, a0, aC, b0, bC, cal, calK, isA, is2A, slA, o0, oI, ixL, itS, itZ, itE, gN, g0, lamA, xO, sNil, sRet, sEx, sErr, sBk, sCt, sShare, bind_ret, bind_err, slA0, slAp, slAf, slAs, slD0, slDo, slDs, calling, toB, toD, toS, toI, frz, dataA, allS, mkTup, mkLst, itemsL, itemsT, share, share1, tupG, consG, List.append_nil, List.replicate, List.getElem?_cons_zero, List.getElem?_cons_succ, List.cons_append, List.nil_append, Nat.sub_self, List.length_cons, List.length_nil, List.set_cons_zero, List.set_cons_succ, List.foldl_cons, List.foldl_nil, if_true, if_false, ite_true, ite_false, reduceCtorEq, Nat.reduceAdd, Nat.reduceSub, Nat.reduceLeDiff, Bool.not_true, Bool.not_false, Bool.false_eq_true, pick, List.filterMap_cons, List.filterMap_nil, e0, told0, ne_S, decide_true, e4, eq_S, e3, e5]
  · have e4 : word n R S = "names" := by
      unfold word
      rw [if_neg h]
    have e6 : decide (("names" : Str) = ("forms" : Str)) = false := decide_eq_false (by decide)
    simp only [W11, eq5, en, runD, seqD, ifD, setD, asgD, forD, parD, par3D, setV, extD, appD, ownAt, vD, vA, oA, kA, fzA, bin, tB, tNot, tAnd, tOr, nA, andA, orA, ifA, chA, a0, aC, b0, bC, cal, calK, isA, is2A, slA, o0, oI, ixL, itS, itZ, itE, gN, g0, lamA, xO, sNil, sRet, sEx, sErr, sBk, sCt, sShare, bind_ret, bind_err, slA0, slAp, slAf, slAs, slD0, slDo, slDs, calling, toB, toD, toS, toI, frz, dataA, allS, mkTup, mkLst, itemsL, itemsT, share, share1, tupG, consG, List.append_nil, List.replicate, List.getElem?_cons_zero, List.getElem?_cons_succ, List.cons_append, List.nil_append, Nat.sub_self, List.length_cons, List.length_nil, List.set_cons_zero, List.set_cons_succ, List.foldl_cons, List.foldl_nil, if_true, if_false, ite_true, ite_false, reduceCtorEq, Nat.reduceAdd, Nat.reduceSub, Nat.reduceLeDiff, Bool.not_true, Bool.not_false, Bool.false_eq_true, pick, List.filterMap_cons, List.filterMap_nil, e0, told0, ne_S, decide_true, e4, eq_S, e6]
abbrev W12 : Dn.Env → T Out := sRet (bin eqA (oA (cal reprD (bC (oA (cal mkLst (aC (vA 1) (aC (vA 2) (a0))))) (b0)))) (vD 3))
theorem w12 (h2 : n ≤ 6) {ws s7 s12 s13 s14 s16 : AV} : W12 (eq5 n R S ws s7 s12 s13 s14 s16) = .ret (.rt (.sh (.bool true))) := by
  simp only [W12, eq5, en, shown0, runD, seqD, ifD, setD, asgD, forD, parD, par3D, setV, extD, appD, ownAt, vD, vA, oA, kA, fzA, bin, tB, tNot, tAnd, tOr, nA, andA, orA, ifA, chA, a0, aC, b0, bC, cal, calK, isA, is2A, slA, o0, oI, ixL, itS, itZ, itE, gN, g0, lamA, xO, sNil, sRet, sEx, sErr, sBk, sCt, sShare, bind_ret, bind_err, slA0, slAp, slAf, slAs, slD0, slDo, slDs, calling, toB, toD, toS, toI, frz, dataA, allS, mkTup, mkLst, itemsL, itemsT, share, share1, tupG, consG, List.append_nil, List.replicate, List.getElem?_cons_zero, List.getElem?_cons_succ, List.cons_append, List.nil_append, Nat.sub_self, List.length_cons, List.length_nil, List.set_cons_zero, List.set_cons_succ, List.foldl_cons, List.foldl_nil, if_true, if_false, ite_true, ite_false, reduceCtorEq, Nat.reduceAdd, Nat.reduceSub, Nat.reduceLeDiff, Bool.not_true, Bool.not_false, Bool.false_eq_true, pick, List.filterMap_cons, List.filterMap_nil, r_AB h2, eq_S, decide_true]
theorem two_right (h1 : 1 ≤ n) (h2 : n ≤ 6) : Hold (d__law_two_right [.pot, .sh (encF n R), .sh (encF n S)]) fun av => av = .sh (.bool true) := by
  have e : b__law_two_right = seqD W1 (seqD W2 (seqD W3 (seqD W4 (seqD W5 (seqD W6 (seqD (forD (itR (oA (kA (.int 5)))) (gN 12) B7) (seqD (forD itF (gN 14) B8) (seqD W9 (seqD W10 (seqD W11 W12)))))))))) := by
    unfold B7 B8
    rfl
  rw [q__law_two_right, e]
  refine hrun ?_
  have pre : ∀ REST : Dn.Env → T Out, seqD W1 (seqD W2 (seqD W3 (seqD W4 (seqD W5 (seqD W6 REST))))) [.pot, .sh (encF n R), .sh (encF n S), .no, .no, .no, .no, .no, .no, .no, .no, .no, .no, .no, .no, .no, .no] = REST (eq5 n R S (.own []) .no .no .no .no .no) := fun REST =>
    (seq_nx (g := seqD W2 (seqD W3 (seqD W4 (seqD W5 (seqD W6 REST))))) (w1 (n := n) (R := R) (S := S) h2)).trans
      ((seq_nx (g := seqD W3 (seqD W4 (seqD W5 (seqD W6 REST)))) (w2 (n := n) (R := R) (S := S) h2)).trans
      ((seq_nx (g := seqD W4 (seqD W5 (seqD W6 REST))) (w3 (n := n) (R := R) (S := S) h2 (x3 := shown0 n R S) (x4 := .own []) (x6 := .own ((same n R S).map encN)))).trans
      ((seq_nx (g := seqD W5 (seqD W6 REST)) (w4 (n := n) (R := R) (S := S) (x3 := shown0 n R S) (x4 := .own []))).trans
      ((seq_nx (g := seqD W6 REST) (w5 (n := n) (R := R) (S := S) h1 h2)).trans
      (seq_nx (g := REST) (w6 (n := n) (R := R) (S := S) h1 h2 (ws := .own []) (s7 := .no) (s12 := .no) (s13 := .no) (s14 := .no) (s16 := .no)))))))
  rw [show ([AV.pot, .sh (encF n R), .sh (encF n S)] ++ List.replicate (17 - 3) AV.no) = [.pot, .sh (encF n R), .sh (encF n S), .no, .no, .no, .no, .no, .no, .no, .no, .no, .no, .no, .no, .no, .no] from rfl, pre]
  have i0 : I7 n R S 0 (eq5 n R S (.own []) .no .no .no .no .no) := ⟨[], .no, .no, .no, rfl, Nat.le_refl 0, fun w h => absurd h List.not_mem_nil⟩
  refine hseq ((w7 h1 h2 i0).mono fun o ⟨ρ1, ho1, i1⟩ => ⟨ρ1, ho1, ?_⟩)
  refine hseq ((w8 h1 h2 i1).mono fun o ⟨ρ2, ho2, i2⟩ => ⟨ρ2, ho2, ?_⟩)
  obtain ⟨ws, s7, s12, s13, s14, e2, _, hw⟩ := i2
  rw [e2]
  have f := (seq_nx (g := seqD W10 (seqD W11 W12)) (w9 (n := n) (R := R) (S := S) (ws := ws) hw (s7 := s7) (s12 := s12) (s13 := s13) (s14 := s14) (s16 := .no))).trans ((seq_nx (g := seqD W11 W12) (w10 h1 h2)).trans ((seq_nx (g := W12) w11).trans (w12 h2)))
  exact hold_of f ⟨_, rfl, rfl⟩
end
end Mf
end
section
set_option Elab.async false
set_option linter.all false
set_option autoImplicit false
set_option maxRecDepth 100000
/-! M18: a pair changed is seen by the number of pairs. -/
namespace Mf
open PySem Dn Wk
open Classical

def occ (b : Nat) : List Nat → Nat
  | [] => 0
  | x :: l => (if x = b then 1 else 0) + occ b l
theorem occ_no {b : Nat} : ∀ {l : List Nat}, b ∉ l → occ b l = 0
  | [], _ => rfl
  | x :: l, h => by
    rw [List.mem_cons, not_or] at h
    rw [occ, occ_no h.2, if_neg (fun e => h.1 e.symm)]
theorem occ_one {b : Nat} : ∀ {l : List Nat}, l.Nodup → b ∈ l → occ b l = 1
  | x :: l, hn, hm => by
    rw [List.nodup_cons] at hn
    rw [occ]
    rcases List.mem_cons.mp hm with rfl | hm
    · rw [if_pos rfl, occ_no hn.1]
    · rw [if_neg (fun e : x = b => hn.1 (e ▸ hm)), occ_one hn.2 hm]
theorem par_row {f : Nat → Bool} {b : Nat} : ∀ l : List Nat, (l.filter fun j => f j != decide (j = b)).length % 2 = ((l.filter f).length + occ b l) % 2
  | [] => rfl
  | x :: l => by
    have ih := par_row (f := f) (b := b) l
    rw [occ]
    by_cases h : x = b
    · cases hf : f x with
      | true =>
        rw [List.filter_cons_of_neg (by rw [h] at hf; simp [hf, h]), List.filter_cons_of_pos hf, if_pos h, List.length_cons]
        omega
      | false =>
        rw [List.filter_cons_of_pos (by rw [h] at hf; simp [hf, h]), List.filter_cons_of_neg (by simp [hf]), if_pos h, List.length_cons]
        omega
    · cases hf : f x with
      | true =>
        rw [List.filter_cons_of_pos (by simp [hf, h]), List.filter_cons_of_pos hf, if_neg h, List.length_cons, List.length_cons]
        omega
      | false =>
        rw [List.filter_cons_of_neg (by simp [hf, h]), List.filter_cons_of_neg (by simp [hf]), if_neg h]
        omega
theorem par_all {n a b : Nat} {R : Nat → Nat → Bool} (hb : b < n) : ∀ L : List Nat, ((L.map fun i => (rowOf n (flipR a b R) i).length).sum) % 2 = ((L.map fun i => (rowOf n R i).length).sum + occ a L) % 2
  | [] => rfl
  | i :: L => by
    have ih := par_all (R := R) (a := a) hb L
    rw [List.map_cons, List.sum_cons, List.map_cons, List.sum_cons, occ]
    by_cases h : i = a
    · have e : rowOf n (flipR a b R) i = (List.range n).filter fun j => R i j != decide (j = b) := by
        unfold rowOf
        refine List.filter_congr fun j _ => ?_
        unfold flipR
        rw [decide_eq_true h, Bool.true_and]
      have p := par_row (f := R i) (b := b) (List.range n)
      rw [← e, occ_one List.nodup_range (List.mem_range.mpr hb)] at p
      have e2 : (rowOf n R i).length = ((List.range n).filter (R i)).length := rfl
      rw [if_pos h]
      omega
    · have e : rowOf n (flipR a b R) i = rowOf n R i := by
        unfold rowOf
        refine List.filter_congr fun j _ => ?_
        unfold flipR
        rw [decide_eq_false h, Bool.false_and, Bool.bne_false]
      rw [e, if_neg h]
      omega
theorem sum_perm : ∀ {l m : List Nat}, l.Perm m → l.sum = m.sum := fun h => by
  induction h with
  | nil => rfl
  | cons x _ ih => rw [List.sum_cons, List.sum_cons, ih]
  | swap x y l => rw [List.sum_cons, List.sum_cons, List.sum_cons, List.sum_cons]; omega
  | trans _ _ h1 h2 => exact h1.trans h2
theorem count_alike {n : Nat} {R S : Nat → Nat → Bool} (h : Alike n R S) : (lens n R).sum = (lens n S).sum := by
  obtain ⟨p, hp, e⟩ := h
  rw [← lens_eqF e]
  exact (sum_perm (lens_act (R := R) hp)).symm
theorem flip_not {n a b : Nat} {R : Nat → Nat → Bool} (ha : a < n) (hb : b < n) : ¬ Alike n R (flipR a b R) := fun h => by
  have e := count_alike h
  have p := par_all (R := R) (a := a) hb (List.range n)
  rw [occ_one List.nodup_range (List.mem_range.mpr ha)] at p
  unfold lens at e
  omega
end Mf
end
section
set_option Elab.async false
set_option linter.all false
set_option autoImplicit false
set_option maxRecDepth 100000
set_option maxHeartbeats 1600000
/-! M19: the law's def for a pot is True. -/
namespace Mf
open PySem Dn Wk
open Classical

theorem two_draws {n : Nat} {L : Nat → Nat → Bool} {e : Dn.Env → T AV} {ρ : Dn.Env} {q : AV → Prop} (h1 : 1 ≤ n) (h2 : n ≤ 6)
    (he : e ρ = (d__law_draw [.pot, .sh (iD n)]).bind fun x => (d__law_draw [.pot, .sh (iD n)]).bind fun y => d_with_pair [.sh (encF n L), frz x, frz y]) (hq : ∀ a b, a < n → b < n → q (.sh (encF n (flipR a b L)))) : Hold (e ρ) q := by
  rw [he]
  refine Hold.bind' (draw_hold (by omega) (by omega) fun a ha => Hold.bind' (draw_hold (by omega) (by omega) fun b hb => ?_))
  show Hold (d_with_pair [.sh (encF n L), .sh (iD a), .sh (iD b)]) q
  rw [e_with_pair h1 h2 ha hb]
  exact hq a b ha hb
theorem hif_ok {e : Dn.Env → T AV} {f : Dn.Env → T Out} {ρ : Dn.Env} {p : Out → Prop} (h : Hold (e ρ) fun av => av = .sh (.bool true)) (hp : p (.nx ρ)) : Hold (ifD (tNot (tB e)) f sNil ρ) p := by
  unfold ifD
  refine Hold.bind' (Hold.bind' (Hold.bind' (h.mono fun av e => ?_)))
  subst e
  exact hp
theorem hif_ok2 {e : Dn.Env → T AV} {c : Dn.Env → T Bool} {f : Dn.Env → T Out} {ρ : Dn.Env} {p : Out → Prop} (h : Hold (e ρ) fun av => av = .sh (.bool true)) (hc : c ρ = .ret false) (hp : p (.nx ρ)) : Hold (ifD (tOr (tNot (tB e)) c) f sNil ρ) p := by
  unfold ifD
  refine Hold.bind' (Hold.bind' (Hold.bind' (Hold.bind' (h.mono fun av e => ?_))))
  subst e
  show Hold (c ρ) _
  rw [hc]
  exact hp
theorem e__law_right : Hold (d__law_right [.pot]) fun av => av = .sh (.bool true) := by
  rw [q__law_right]
  refine hrun ?_
  unfold b__law_right
  -- the relation
  refine hseq (hset (hfz ((e__law_relation (m := 5) (by omega) (by omega)).mono fun av ⟨n, R, h1, h5, e⟩ => ?_)))
  subst e
  have h2 : n ≤ 6 := by omega
  refine ⟨(by intro z; cases z), [.pot, .sh (encF n R), .no, .no, .no, .no], rfl, ?_⟩
  -- names
  have hm : Hold (cal (calling 2 d__law_mixed) (aC (vA 0) (aC (cal (rgD .own) (oA (cal lenD (bC (vD 1) (b0))))) (a0))) [.pot, .sh (encF n R), .no, .no, .no, .no]) fun av => ∃ p, Perm n p ∧ av = .sh (encN p) := by
    simp only [runD, seqD, ifD, setD, asgD, forD, parD, par3D, setV, extD, appD, ownAt, vD, vA, oA, kA, fzA, bin, tB, tNot, tAnd, tOr, nA, andA, orA, ifA, chA, a0, aC, b0, bC, cal, calK, isA, is2A, slA, o0, oI, ixL, itS, itZ, itE, gN, g0, lamA, xO, sNil, sRet, sEx, sErr, sBk, sCt, sShare, bind_ret, bind_err, slA0, slAp, slAf, slAs, slD0, slDo, slDs, calling, toB, toD, toS, toI, frz, dataA, allS, mkTup, mkLst, itemsL, itemsT, share, share1, tupG, consG, List.append_nil, List.replicate, List.getElem?_cons_zero, List.getElem?_cons_succ, List.cons_append, List.nil_append, Nat.sub_self, List.length_cons, List.length_nil, List.set_cons_zero, List.set_cons_succ, List.foldl_cons, List.foldl_nil, if_true, if_false, ite_true, ite_false, reduceCtorEq, Nat.reduceAdd, Nat.reduceSub, Nat.reduceLeDiff, Bool.not_true, Bool.not_false, Bool.false_eq_true, pick, List.filterMap_cons, List.filterMap_nil, len_F, rg_n (show n ≤ 1000 by omega), fold_N]
    exact e__law_mixed h2
  refine hseq (hset (hfz (hm.mono fun av ⟨p, hp, e⟩ => ?_)))
  subst e
  refine ⟨(by intro z; cases z), [.pot, .sh (encF n R), .sh (encN p), .no, .no, .no], rfl, ?_⟩
  have l1 : listD [encN p] = .ret (.own (p.map iD)) := rfl
  -- late
  have q3 : setD 3 (fzA (cal (calling 2 d_renamed) (aC (vA 1) (aC (cal listD (bC (vD 2) (b0))) (a0))))) [.pot, .sh (encF n R), .sh (encN p), .no, .no, .no] = .ret (.nx [.pot, .sh (encF n R), .sh (encN p), .sh (encF n (act p R)), .no, .no]) := by
    simp only [runD, seqD, ifD, setD, asgD, forD, parD, par3D, setV, extD, appD, ownAt, vD, vA, oA, kA, fzA, bin, tB, tNot, tAnd, tOr, nA, andA, orA, ifA, chA, a0, aC, b0, bC, cal, calK, isA, is2A, slA, o0, oI, ixL, itS, itZ, itE, gN, g0, lamA, xO, sNil, sRet, sEx, sErr, sBk, sCt, sShare, bind_ret, bind_err, slA0, slAp, slAf, slAs, slD0, slDo, slDs, calling, toB, toD, toS, toI, frz, dataA, allS, mkTup, mkLst, itemsL, itemsT, share, share1, tupG, consG, List.append_nil, List.replicate, List.getElem?_cons_zero, List.getElem?_cons_succ, List.cons_append, List.nil_append, Nat.sub_self, List.length_cons, List.length_nil, List.set_cons_zero, List.set_cons_succ, List.foldl_cons, List.foldl_nil, if_true, if_false, ite_true, ite_false, reduceCtorEq, Nat.reduceAdd, Nat.reduceSub, Nat.reduceLeDiff, Bool.not_true, Bool.not_false, Bool.false_eq_true, pick, List.filterMap_cons, List.filterMap_nil, l1, fold_N, e_renamed (R := R) h1 h2 hp (.inl rfl)]
  refine hseq (hold_of q3 ⟨_, rfl, ?_⟩)
  have t1 : Hold (cal (calling 3 d__law_two_right) (aC (vA 0) (aC (vA 1) (aC (vA 3) (a0)))) [.pot, .sh (encF n R), .sh (encN p), .sh (encF n (act p R)), .no, .no]) fun av => av = .sh (.bool true) := two_right h1 h2
  refine hseq (hif_ok t1 ⟨_, rfl, ?_⟩)
  -- other
  refine hseq (hset (hfz (two_draws (n := n) (L := act p R) h1 h2 (by simp only [runD, seqD, ifD, setD, asgD, forD, parD, par3D, setV, extD, appD, ownAt, vD, vA, oA, kA, fzA, bin, tB, tNot, tAnd, tOr, nA, andA, orA, ifA, chA, a0, aC, b0, bC, cal, calK, isA, is2A, slA, o0, oI, ixL, itS, itZ, itE, gN, g0, lamA, xO, sNil, sRet, sEx, sErr, sBk, sCt, sShare, bind_ret, bind_err, slA0, slAp, slAf, slAs, slD0, slDo, slDs, calling, toB, toD, toS, toI, frz, dataA, allS, mkTup, mkLst, itemsL, itemsT, share, share1, tupG, consG, List.append_nil, List.replicate, List.getElem?_cons_zero, List.getElem?_cons_succ, List.cons_append, List.nil_append, Nat.sub_self, List.length_cons, List.length_nil, List.set_cons_zero, List.set_cons_succ, List.foldl_cons, List.foldl_nil, if_true, if_false, ite_true, ite_false, reduceCtorEq, Nat.reduceAdd, Nat.reduceSub, Nat.reduceLeDiff, Bool.not_true, Bool.not_false, Bool.false_eq_true, pick, List.filterMap_cons, List.filterMap_nil, len_F, bind_assoc]) fun a b ha hb => ⟨(by intro z; cases z), [.pot, .sh (encF n R), .sh (encN p), .sh (encF n (act p R)), .sh (encF n (flipR a b (act p R))), .no], rfl, ?_⟩)))
  have na : ¬ Alike n R (flipR a b (act p R)) := fun z => flip_not ha hb (Alike.trans (Alike.symm ⟨p, hp, eqF_refl _ _⟩) z)
  have hc : tB (bin neA (oA (bin ixD (oA (cal (calling 2 d_alike_paper) (aC (vA 1) (aC (vA 4) (a0))))) (oA (kA (.int 0))))) (oA (kA (.str "forms")))) [.pot, .sh (encF n R), .sh (encN p), .sh (encF n (act p R)), .sh (encF n (flipR a b (act p R))), .no] = .ret false := by
    simp only [runD, seqD, ifD, setD, asgD, forD, parD, par3D, setV, extD, appD, ownAt, vD, vA, oA, kA, fzA, bin, tB, tNot, tAnd, tOr, nA, andA, orA, ifA, chA, a0, aC, b0, bC, cal, calK, isA, is2A, slA, o0, oI, ixL, itS, itZ, itE, gN, g0, lamA, xO, sNil, sRet, sEx, sErr, sBk, sCt, sShare, bind_ret, bind_err, slA0, slAp, slAf, slAs, slD0, slDo, slDs, calling, toB, toD, toS, toI, frz, dataA, allS, mkTup, mkLst, itemsL, itemsT, share, share1, tupG, consG, List.append_nil, List.replicate, List.getElem?_cons_zero, List.getElem?_cons_succ, List.cons_append, List.nil_append, Nat.sub_self, List.length_cons, List.length_nil, List.set_cons_zero, List.set_cons_succ, List.foldl_cons, List.foldl_nil, if_true, if_false, ite_true, ite_false, reduceCtorEq, Nat.reduceAdd, Nat.reduceSub, Nat.reduceLeDiff, Bool.not_true, Bool.not_false, Bool.false_eq_true, pick, List.filterMap_cons, List.filterMap_nil, e_alike_paper h1 h2, told0, word_forms na, ne_S, decide_true]
  have t2 : Hold (cal (calling 3 d__law_two_right) (aC (vA 0) (aC (vA 1) (aC (vA 4) (a0)))) [.pot, .sh (encF n R), .sh (encN p), .sh (encF n (act p R)), .sh (encF n (flipR a b (act p R))), .no]) fun av => av = .sh (.bool true) := two_right h1 h2
  refine hseq (hif_ok2 t2 hc ⟨_, rfl, ?_⟩)
  -- third
  refine hseq (hset (hfz (two_draws (n := n) (L := flipR a b (act p R)) h1 h2 (by simp only [runD, seqD, ifD, setD, asgD, forD, parD, par3D, setV, extD, appD, ownAt, vD, vA, oA, kA, fzA, bin, tB, tNot, tAnd, tOr, nA, andA, orA, ifA, chA, a0, aC, b0, bC, cal, calK, isA, is2A, slA, o0, oI, ixL, itS, itZ, itE, gN, g0, lamA, xO, sNil, sRet, sEx, sErr, sBk, sCt, sShare, bind_ret, bind_err, slA0, slAp, slAf, slAs, slD0, slDo, slDs, calling, toB, toD, toS, toI, frz, dataA, allS, mkTup, mkLst, itemsL, itemsT, share, share1, tupG, consG, List.append_nil, List.replicate, List.getElem?_cons_zero, List.getElem?_cons_succ, List.cons_append, List.nil_append, Nat.sub_self, List.length_cons, List.length_nil, List.set_cons_zero, List.set_cons_succ, List.foldl_cons, List.foldl_nil, if_true, if_false, ite_true, ite_false, reduceCtorEq, Nat.reduceAdd, Nat.reduceSub, Nat.reduceLeDiff, Bool.not_true, Bool.not_false, Bool.false_eq_true, pick, List.filterMap_cons, List.filterMap_nil, len_F, bind_assoc]) fun a2 b2 ha2 hb2 => ⟨(by intro z; cases z), [.pot, .sh (encF n R), .sh (encN p), .sh (encF n (act p R)), .sh (encF n (flipR a b (act p R))), .sh (encF n (flipR a2 b2 (flipR a b (act p R))))], rfl, ?_⟩)))
  have t3 : Hold (cal (calling 3 d__law_two_right) (aC (vA 0) (aC (vA 1) (aC (vA 5) (a0)))) [.pot, .sh (encF n R), .sh (encN p), .sh (encF n (act p R)), .sh (encF n (flipR a b (act p R))), .sh (encF n (flipR a2 b2 (flipR a b (act p R))))]) fun av => av = .sh (.bool true) := two_right h1 h2
  exact hret (t3.mono fun av e => ⟨av, rfl, e⟩)
end Mf
end
section
set_option Elab.async false
set_option linter.all false
set_option autoImplicit false
set_option maxRecDepth 100000
set_option maxHeartbeats 1600000
/-! M20: the law. -/
namespace Mf
open PySem Dn Wk
open Classical

theorem mod_I {i j : Int} (h : j ≠ 0) : modD (.int i) (.int j) = .ret (.sh (.int (i.fmod j))) := if_pos h
noncomputable def PT1 : Dn.Env → T Out := shut (setD 2 (fzA (ifA (tB (bin ltD (vD 1) (oA (cal lenD (bC (vD 0) (b0)))))) (cal absD (bC (oA (bin ixD (vD 0) (vD 1))) (b0))) (bin addD (oA (bin mulD (oA (kA (.int 3779))) (vD 1))) (oA (kA (.int 2731)))))))
noncomputable def PT2 : Dn.Env → T Out := shut (sRet (cal mkLst (aC (cal max2D (bC (oA (kA (.int 0))) (bC (oA (bin subD (vD 2) (oA (bin powD (oA (kA (.int 10))) (oA (kA (.int 18))))))) (b0)))) (aC (bin addD (oA (bin modD (oA (cal intOfD (bC (oA (bin addD (oA (bin addD (oA (bin mulD (oA (bin modD (oA (cal intOfD (bC (vD 2) (b0)))) (oA (kA (.int 2147483543))))) (oA (kA (.int 46997))))) (oA (bin mulD (oA (kA (.int 2731))) (vD 1))))) (oA (kA (.int 3779))))) (b0)))) (oA (kA (.int 2147483563))))) (oA (kA (.int 1)))) (a0)))))
theorem pt_eq : b__law_pot = seqD PT1 PT2 := by
  unfold PT1 PT2
  rw [shut_eq, shut_eq]
  rfl
/-- the second statement of _law_pot, from a cell c on -/
theorem pot_tail {ns : PyData} {k : Nat} {c : Int} (h0 : 0 ≤ c) (hb : c.toNat < BIG) (hk : k ≤ 2) :
    Hold (PT2 [.sh ns, .sh (iD k), .sh (.int c)]) fun o => ∃ av, o = .rt av ∧ Hold (potOf av) fun r => r = .pot := by
  have e1 : powD (.int 10) (.int 18) = .ret (.sh (.int (10 ^ 18))) := by
    show (if 0 ≤ (18 : Int) ∧ (18 : Int) ≤ 1000000 ∧ (10 : Int).natAbs < 2 ^ 64 then T.ret (AV.sh (.int (10 ^ (18 : Int).toNat))) else .err) = _
    rw [if_pos ⟨by omega, by omega, by decide⟩]
    rfl
  have e2 : ∀ i j : Int, subD (.int i) (.int j) = .ret (.sh (.int (i - j))) := fun _ _ => rfl
  have e3 : ∀ i j : Int, max2D [.int i, .int j] = .ret (.sh (.int (if j > i then j else i))) := fun _ _ => rfl
  have e4 := mod_I (i := c) (j := 2147483543) (by omega)
  have e5 : ∀ i : Int, mulD (.int i) (.int 46997) = .ret (.sh (.int (i * 46997))) := fun i => mul_int (.inr ⟨by omega, by omega⟩)
  have e6 : mulD (.int 2731) (iD k) = .ret (.sh (.int (2731 * (k : Int)))) := mul_int (.inl ⟨by omega, by omega⟩)
  have e7 := fun i : Int => mod_I (i := i) (j := 2147483563) (by omega)
  have z : (2 : Nat) ≤ 4000 := by omega
  unfold PT2
  rw [shut_eq]
  simp only [runD, seqD, ifD, setD, asgD, forD, parD, par3D, setV, extD, appD, ownAt, vD, vA, oA, kA, fzA, bin, tB, tNot, tAnd, tOr, nA, andA, orA, ifA, chA, a0, aC, b0, bC, cal, calK, isA, is2A, slA, o0, oI, ixL, itS, itZ, itE, gN, g0, lamA, xO, sNil, sRet, sEx, sErr, sBk, sCt, sShare, bind_ret, bind_err, slA0, slAp, slAf, slAs, slD0, slDo, slDs, calling, toB, toD, toS, toI, frz, dataA, allS, mkTup, mkLst, itemsL, itemsT, share, share1, tupG, consG, List.append_nil, List.replicate, List.getElem?_cons_zero, List.getElem?_cons_succ, List.cons_append, List.nil_append, Nat.sub_self, List.length_cons, List.length_nil, List.set_cons_zero, List.set_cons_succ, List.foldl_cons, List.foldl_nil, if_true, if_false, ite_true, ite_false, reduceCtorEq, Nat.reduceAdd, Nat.reduceSub, Nat.reduceLeDiff, Bool.not_true, Bool.not_false, Bool.false_eq_true, pick, List.filterMap_cons, List.filterMap_nil, e1, e2, e3, e4, e5, e6, e7, intOf_int, add_int, z]
  refine ⟨_, rfl, ?_⟩
  obtain ⟨a, b⟩ := fm (c.fmod 2147483543 * 46997 + 2731 * (k : Int) + 3779) 2147483563 (by omega)
  generalize (c.fmod 2147483543 * 46997 + 2731 * (k : Int) + 3779).fmod 2147483563 = y at a b ⊢
  have hx : 0 ≤ (if c - 10 ^ 18 > 0 then c - 10 ^ 18 else 0) ∧ (if c - 10 ^ 18 > 0 then c - 10 ^ 18 else 0).toNat < BIG := by
    have hB := BIG_pos
    by_cases h : c - 10 ^ 18 > 0
    · rw [if_pos h]
      exact ⟨by omega, by omega⟩
    · rw [if_neg h]
      exact ⟨by omega, hB⟩
  show Hold (if _ then T.ret AV.pot else .err) _
  rw [if_pos ⟨hx.1, hx.2, by omega, by rw [LIM_eq]; omega⟩]
  rfl
theorem pot_fin {ns : PyData} {k : Nat} {c : Int} (h0 : 0 ≤ c) (h1 : c.toNat < BIG) (hk : k ≤ 2) (e : PT1 [.sh ns, .sh (iD k), .no] = .ret (.nx [.sh ns, .sh (iD k), .sh (.int c)])) : Hold (d__law_pot [.sh ns, .sh (iD k)]) fun av => av = .pot := by
  have q : Hold (seqD PT1 PT2 [.sh ns, .sh (iD k), .no]) fun o => ∃ av, o = .rt av ∧ Hold (potOf av) fun r => r = .pot := by
    rw [seq_nx e]
    exact @pot_tail ns k c h0 h1 hk
  rw [q__law_pot]
  refine Hold.bind' ?_
  rw [q__law_pot0, pt_eq]
  exact hrun q
end Mf
end
section
set_option Elab.async false
set_option linter.all false
set_option autoImplicit false
set_option maxRecDepth 100000
set_option maxHeartbeats 1600000
/-! M21: the law. -/
namespace Mf
open PySem Dn Wk
open Classical

theorem lt_int {i j : Int} : ltD (.int i) (.int j) = .ret (.sh (.bool (decide (i < j)))) := rfl
theorem len_ints {ns : List Int} : lenD [.list (ns.map PyData.int)] = .ret (.sh (.int (ns.length : Nat))) := by
  show T.ret (AV.sh (PyData.int ((ns.map PyData.int).length : Nat))) = _
  rw [List.length_map]
theorem abs_int {i : Int} : absD [.int i] = .ret (.sh (.int (if i < 0 then -i else i))) := rfl
theorem abs_big {i : Int} (h : Builtin.Int.intBits i ≤ 1048576) : 0 ≤ (if i < 0 then -i else i) ∧ (if i < 0 then -i else i).toNat < BIG := by
  have h1 := intBits_le_iff.mp h
  have h2 : (2 : Nat) ^ 1048576 ≤ BIG := by
    rw [BIG_eq]
    exact Nat.pow_le_pow_right (by omega) (by omega)
  generalize (2 : Nat) ^ 1048576 = y at h1 h2
  by_cases hi : i < 0
  · rw [if_pos hi]
    exact ⟨by omega, by omega⟩
  · rw [if_neg hi]
    exact ⟨by omega, by omega⟩
theorem small_big {x : Nat} (h : x < 1000000) : x < BIG := by
  have h2 : (2 : Nat) ^ 20 ≤ BIG := by
    rw [BIG_eq]
    exact Nat.pow_le_pow_right (by omega) (by omega)
  have h3 : (2 : Nat) ^ 20 = 1048576 := by decide
  omega
theorem PT1_ok {ns : List Int} {k : Nat} (hk : k < 2) (hb : ∀ z ∈ ns, Builtin.Int.intBits z ≤ 1048576) : ∃ c : Int, 0 ≤ c ∧ c.toNat < BIG ∧
    PT1 [.sh (.list (ns.map PyData.int)), .sh (iD k), .no] = .ret (.nx [.sh (.list (ns.map PyData.int)), .sh (iD k), .sh (.int c)]) := by
  by_cases h : k < ns.length
  · obtain ⟨a, b⟩ := abs_big (hb ns[k] (List.getElem_mem h))
    refine ⟨_, a, b, ?_⟩
    have e1 : ixD (.list (ns.map PyData.int)) (iD k) = .ret (.sh (.int ns[k])) := ix_list (by rw [List.getElem?_map, List.getElem?_eq_getElem h]; rfl)
    have e2 : ltD (iD k) (.int (ns.length : Nat)) = .ret (.sh (.bool true)) := by
      rw [lt_int, decide_eq_true (by omega)]
    unfold PT1
    rw [shut_eq]
    simp only [runD, seqD, ifD, setD, asgD, forD, parD, par3D, setV, extD, appD, ownAt, vD, vA, oA, kA, fzA, bin, tB, tNot, tAnd, tOr, nA, andA, orA, ifA, chA, a0, aC, b0, bC, cal, calK, isA, is2A, slA, o0, oI, ixL, itS, itZ, itE, gN, g0, lamA, xO, sNil, sRet, sEx, sErr, sBk, sCt, sShare, bind_ret, bind_err, slA0, slAp, slAf, slAs, slD0, slDo, slDs, calling, toB, toD, toS, toI, frz, dataA, allS, mkTup, mkLst, itemsL, itemsT, share, share1, tupG, consG, List.append_nil, List.replicate, List.getElem?_cons_zero, List.getElem?_cons_succ, List.cons_append, List.nil_append, Nat.sub_self, List.length_cons, List.length_nil, List.set_cons_zero, List.set_cons_succ, List.foldl_cons, List.foldl_nil, if_true, if_false, ite_true, ite_false, reduceCtorEq, Nat.reduceAdd, Nat.reduceSub, Nat.reduceLeDiff, Bool.not_true, Bool.not_false, Bool.false_eq_true, pick, List.filterMap_cons, List.filterMap_nil, e1, e2, len_ints, abs_int]
  · refine ⟨3779 * (k : Int) + 2731, by omega, small_big (by omega), ?_⟩
    have e2 : ltD (iD k) (.int (ns.length : Nat)) = .ret (.sh (.bool false)) := by
      rw [lt_int, decide_eq_false (by omega)]
    have e3 : mulD (.int 3779) (iD k) = .ret (.sh (.int (3779 * (k : Int)))) := mul_int (.inl ⟨by omega, by omega⟩)
    unfold PT1
    rw [shut_eq]
    simp only [runD, seqD, ifD, setD, asgD, forD, parD, par3D, setV, extD, appD, ownAt, vD, vA, oA, kA, fzA, bin, tB, tNot, tAnd, tOr, nA, andA, orA, ifA, chA, a0, aC, b0, bC, cal, calK, isA, is2A, slA, o0, oI, ixL, itS, itZ, itE, gN, g0, lamA, xO, sNil, sRet, sEx, sErr, sBk, sCt, sShare, bind_ret, bind_err, slA0, slAp, slAf, slAs, slD0, slDo, slDs, calling, toB, toD, toS, toI, frz, dataA, allS, mkTup, mkLst, itemsL, itemsT, share, share1, tupG, consG, List.append_nil, List.replicate, List.getElem?_cons_zero, List.getElem?_cons_succ, List.cons_append, List.nil_append, Nat.sub_self, List.length_cons, List.length_nil, List.set_cons_zero, List.set_cons_succ, List.foldl_cons, List.foldl_nil, if_true, if_false, ite_true, ite_false, reduceCtorEq, Nat.reduceAdd, Nat.reduceSub, Nat.reduceLeDiff, Bool.not_true, Bool.not_false, Bool.false_eq_true, pick, List.filterMap_cons, List.filterMap_nil, e2, e3, add_int, len_ints]
theorem e__law_pot {ns : List Int} {k : Nat} (hk : k < 2) (hb : ∀ z ∈ ns, Builtin.Int.intBits z ≤ 1048576) : Hold (d__law_pot [.sh (.list (ns.map PyData.int)), .sh (iD k)]) fun av => av = .pot := by
  obtain ⟨c, h0, h1, e⟩ := PT1_ok hk hb
  exact pot_fin h0 h1 (by omega) e
end Mf
end
section
set_option Elab.async false
set_option linter.all false
set_option autoImplicit false
set_option maxRecDepth 100000
set_option maxHeartbeats 1600000
/-! M22: the law. -/
namespace Mf
open PySem Dn Wk
open Classical

theorem all2_true {α : Type} {l : List α} {ys : List PyData} (h : All2 (fun _ y => y = PyData.bool true) l ys) : ys = l.map fun _ => PyData.bool true := by
  induction h with
  | nil => rfl
  | cons h1 _ ih => rw [h1, ih]; rfl
noncomputable def LW : Dn.Env → T AV := shut (cal (calling 1 d__law_right) (aC (cal (calling 2 d__law_pot) (aC (vA 0) (aC (vA 1) (a0)))) (a0)))
noncomputable def LI : Dn.Env → T (List PyData) := shut (itR (oA (cal max2D (bC (oA (kA (.int 1))) (bC (oA (cal min2D (bC (oA (kA (.int 2))) (bC (oA (cal lenD (bC (vD 0) (b0)))) (b0))))) (b0))))))
theorem law_eq : b_law = sRet (cal allD (bC (oA (lcD [1] LI (gN 1) lcTest0 LW)) b0)) := by
  unfold LW LI
  rw [shut_eq, shut_eq]
  rfl
theorem e_turn {ns : List Int} {k : Nat} (hk : k < 2) (hb : ∀ z ∈ ns, Builtin.Int.intBits z ≤ 1048576) : Hold ((LW [.sh (.list (ns.map PyData.int)), .sh (iD k)]).bind toS) fun y => y = .bool true := by
  unfold LW
  rw [shut_eq]
  refine Hold.bind' ?_
  show Hold (((((T.ret (AV.sh (.list (ns.map PyData.int)))).bind fun a => ((T.ret (AV.sh (iD k))).bind fun a => (T.ret []).bind fun as => T.ret (frz a :: as)).bind fun as => T.ret (frz a :: as)).bind (calling 2 d__law_pot)).bind fun a => (T.ret []).bind fun as => T.ret (frz a :: as)).bind (calling 1 d__law_right)) _
  refine Hold.bind' (Hold.bind' ?_)
  show Hold (d__law_pot [.sh (.list (ns.map PyData.int)), .sh (iD k)]) _
  refine (e__law_pot hk hb).mono fun av e => ?_
  subst e
  show Hold (d__law_right [.pot]) _
  exact e__law_right.mono fun av e => by
    subst e
    rfl
theorem e_turns {ns : List Int} : ∃ m : Nat, m ≤ 2 ∧ LI [.sh (.list (ns.map PyData.int)), .no] = .ret ((List.range m).map iD) := by
  have e1 : min2D [.int 2, .int (ns.length : Nat)] = .ret (.sh (.int (if (ns.length : Int) < 2 then (ns.length : Int) else 2))) := rfl
  have e2 : ∀ i : Int, max2D [.int 1, .int i] = .ret (.sh (.int (if i > 1 then i else 1))) := fun _ => rfl
  have e3 : (if (if (ns.length : Int) < 2 then (ns.length : Int) else 2) > 1 then (if (ns.length : Int) < 2 then (ns.length : Int) else 2) else (1 : Int)) = ((if ns.length < 2 then 1 else 2 : Nat) : Int) := by
    by_cases h : ns.length < 2
    · rw [if_pos (show (ns.length : Int) < 2 by omega), if_pos h, if_neg (by omega)]
      rfl
    · rw [if_neg (show ¬ (ns.length : Int) < 2 by omega), if_neg h, if_pos (by omega)]
      rfl
  refine ⟨if ns.length < 2 then 1 else 2, by split <;> omega, ?_⟩
  unfold LI
  rw [shut_eq]
  refine itR_n ?_ (by split <;> omega)
  simp only [runD, seqD, ifD, setD, asgD, forD, parD, par3D, setV, extD, appD, ownAt, vD, vA, oA, kA, fzA, bin, tB, tNot, tAnd, tOr, nA, andA, orA, ifA, chA, a0, aC, b0, bC, cal, calK, isA, is2A, slA, o0, oI, ixL, itS, itZ, itE, gN, g0, lamA, xO, sNil, sRet, sEx, sErr, sBk, sCt, sShare, bind_ret, bind_err, slA0, slAp, slAf, slAs, slD0, slDo, slDs, calling, toB, toD, toS, toI, frz, dataA, allS, mkTup, mkLst, itemsL, itemsT, share, share1, tupG, consG, List.append_nil, List.replicate, List.getElem?_cons_zero, List.getElem?_cons_succ, List.cons_append, List.nil_append, Nat.sub_self, List.length_cons, List.length_nil, List.set_cons_zero, List.set_cons_succ, List.foldl_cons, List.foldl_nil, if_true, if_false, ite_true, ite_false, reduceCtorEq, Nat.reduceAdd, Nat.reduceSub, Nat.reduceLeDiff, Bool.not_true, Bool.not_false, Bool.false_eq_true, pick, List.filterMap_cons, List.filterMap_nil, len_ints, e1, e2, e3]
theorem e_law {ns : List Int} (hb : ∀ z ∈ ns, Builtin.Int.intBits z ≤ 1048576) : Hold (d_law [.sh (.list (ns.map PyData.int))]) fun av => av = .sh (.bool true) := by
  obtain ⟨m, hm, e⟩ := e_turns (ns := ns)
  rw [q_law, law_eq]
  refine hrun (hret (Hold.bind' (Hold.bind' (Hold.bind' (lcD_hold e rfl ?_)))))
  refine (lcH1 (fun _ y => y = .bool true) (List.range m) fun a ha => ?_).mono fun ys hys => ?_
  · exact e_turn (by have := List.mem_range.mp ha; omega) hb
  · have h := all2_true hys
    subst h
    show Hold (allD [.list ((List.range m).map fun _ => PyData.bool true)]) _
    rw [all_true]
    exact ⟨_, rfl, rfl⟩
end Mf
end
section
set_option Elab.async false
set_option linter.all false
set_option maxRecDepth 100000
set_option maxHeartbeats 0
namespace LawTrue
open PySem Dn
theorem law_true : ∀ ns : List Int, ns.length ≤ 63 → (∀ z ∈ ns, Builtin.Int.intBits z ≤ 1048576) → Hold (Wk.d_law [.sh (.list (ns.map PyData.int))]) fun av => av = .sh (.bool true) :=
  fun ns _ hb => Mf.e_law hb
end LawTrue
namespace Fin
open PySem PySem.Spec PyProof.Rows L2 LamX Dn
theorem facts {w : World} {h : Heap} {K : PySem.W.Frag} {mg : Str → Option Value} (KX : K.In h) (G : h.Ns mainGlobals mg) (c : He.SaysX LawHd.fa LawHd.fn [] LawHd.tf LawHd.ex w h K) : Wk.Facts K mg where
  f_is_integer := c.t.d.def_ 0 (d := LawHd.d_is_integer) rfl
  g_is_integer := He.glo_ok KX G (c.t.d.fact 0 (f := .glo "is_integer") rfl)
  f_is_within := c.t.d.def_ 1 (d := LawHd.d_is_within) rfl
  g_is_within := He.glo_ok KX G (c.t.d.fact 1 (f := .glo "is_within") rfl)
  f_is_list := c.t.d.def_ 2 (d := LawHd.d_is_list) rfl
  g_is_list := He.glo_ok KX G (c.t.d.fact 2 (f := .glo "is_list") rfl)
  f_is_tuple := c.t.d.def_ 3 (d := LawHd.d_is_tuple) rfl
  g_is_tuple := He.glo_ok KX G (c.t.d.fact 3 (f := .glo "is_tuple") rfl)
  f_are_rising := c.t.d.def_ 4 (d := LawHd.d_are_rising) rfl
  g_are_rising := He.glo_ok KX G (c.t.d.fact 4 (f := .glo "are_rising") rfl)
  f_is_lot_of := c.t.d.def_ 5 (d := LawHd.d_is_lot_of) rfl
  g_is_lot_of := He.glo_ok KX G (c.t.d.fact 5 (f := .glo "is_lot_of") rfl)
  f_is_relation_of := c.t.d.def_ 6 (d := LawHd.d_is_relation_of) rfl
  g_is_relation_of := He.glo_ok KX G (c.t.d.fact 6 (f := .glo "is_relation_of") rfl)
  f_is_relation_value := c.t.d.def_ 7 (d := LawHd.d_is_relation_value) rfl
  g_is_relation_value := He.glo_ok KX G (c.t.d.fact 7 (f := .glo "is_relation_value") rfl)
  f_want_relation := c.t.d.def_ 8 (d := LawHd.d_want_relation) rfl
  g_want_relation := He.glo_ok KX G (c.t.d.fact 8 (f := .glo "want_relation") rfl)
  f_want_as_many := c.t.d.def_ 10 (d := LawHd.d_want_as_many) rfl
  g_want_as_many := He.glo_ok KX G (c.t.d.fact 10 (f := .glo "want_as_many") rfl)
  f_want_two := c.t.d.def_ 9 (d := LawHd.d_want_two) rfl
  g_want_two := He.glo_ok KX G (c.t.d.fact 9 (f := .glo "want_two") rfl)
  f_want_thing := c.t.d.def_ 11 (d := LawHd.d_want_thing) rfl
  g_want_thing := He.glo_ok KX G (c.t.d.fact 11 (f := .glo "want_thing") rfl)
  f_by_rule := c.t.d.def_ 12 (d := LawHd.d_by_rule) rfl
  g_by_rule := He.glo_ok KX G (c.t.d.fact 12 (f := .glo "by_rule") rfl)
  f_are_names_value := c.t.d.def_ 13 (d := LawHd.d_are_names_value) rfl
  g_are_names_value := He.glo_ok KX G (c.t.d.fact 13 (f := .glo "are_names_value") rfl)
  f_want_names := c.t.d.def_ 14 (d := LawHd.d_want_names) rfl
  g_want_names := He.glo_ok KX G (c.t.d.fact 14 (f := .glo "want_names") rfl)
  f_renamed_of := c.t.d.def_ 15 (d := LawHd.d_renamed_of) rfl
  g_renamed_of := He.glo_ok KX G (c.t.d.fact 15 (f := .glo "renamed_of") rfl)
  f_renamed := c.t.d.def_ 16 (d := LawHd.d_renamed) rfl
  g_renamed := He.glo_ok KX G (c.t.d.fact 16 (f := .glo "renamed") rfl)
  f_with_pair := c.t.d.def_ 17 (d := LawHd.d_with_pair) rfl
  g_with_pair := He.glo_ok KX G (c.t.d.fact 17 (f := .glo "with_pair") rfl)
  f_all_names := c.t.d.def_ 18 (d := LawHd.d_all_names) rfl
  g_all_names := He.glo_ok KX G (c.t.d.fact 18 (f := .glo "all_names") rfl)
  f_namings_of := c.t.d.def_ 19 (d := LawHd.d_namings_of) rfl
  g_namings_of := He.glo_ok KX G (c.t.d.fact 19 (f := .glo "namings_of") rfl)
  f_first_of := c.t.d.def_ 20 (d := LawHd.d_first_of) rfl
  g_first_of := He.glo_ok KX G (c.t.d.fact 20 (f := .glo "first_of") rfl)
  f_form_of := c.t.d.def_ 21 (d := LawHd.d_form_of) rfl
  g_form_of := He.glo_ok KX G (c.t.d.fact 21 (f := .glo "form_of") rfl)
  f_are_alike := c.t.d.def_ 22 (d := LawHd.d_are_alike) rfl
  g_are_alike := He.glo_ok KX G (c.t.d.fact 22 (f := .glo "are_alike") rfl)
  f_alike_paper := c.t.d.def_ 23 (d := LawHd.d_alike_paper) rfl
  g_alike_paper := He.glo_ok KX G (c.t.d.fact 23 (f := .glo "alike_paper") rfl)
  f_are_forms := c.t.d.def_ 25 (d := LawHd.d_are_forms) rfl
  g_are_forms := He.glo_ok KX G (c.t.d.fact 25 (f := .glo "are_forms") rfl)
  f_is_alike_paper := c.t.d.def_ 24 (d := LawHd.d_is_alike_paper) rfl
  g_is_alike_paper := He.glo_ok KX G (c.t.d.fact 24 (f := .glo "is_alike_paper") rfl)
  f__law_pot := c.t.d.def_ 26 (d := LawHd.d__law_pot) rfl
  g__law_pot := He.glo_ok KX G (c.t.d.fact 26 (f := .glo "_law_pot") rfl)
  f__law_draw := c.t.d.def_ 27 (d := LawHd.d__law_draw) rfl
  g__law_draw := He.glo_ok KX G (c.t.d.fact 27 (f := .glo "_law_draw") rfl)
  f__law_pick := c.t.d.def_ 28 (d := LawHd.d__law_pick) rfl
  g__law_pick := He.glo_ok KX G (c.t.d.fact 28 (f := .glo "_law_pick") rfl)
  f__law_mixed := c.t.d.def_ 29 (d := LawHd.d__law_mixed) rfl
  g__law_mixed := He.glo_ok KX G (c.t.d.fact 29 (f := .glo "_law_mixed") rfl)
  f__law_relation := c.t.d.def_ 30 (d := LawHd.d__law_relation) rfl
  g__law_relation := He.glo_ok KX G (c.t.d.fact 30 (f := .glo "_law_relation") rfl)
  f__law_renamed := c.t.d.def_ 31 (d := LawHd.d__law_renamed) rfl
  g__law_renamed := He.glo_ok KX G (c.t.d.fact 31 (f := .glo "_law_renamed") rfl)
  f__law_all_names := c.t.d.def_ 32 (d := LawHd.d__law_all_names) rfl
  g__law_all_names := He.glo_ok KX G (c.t.d.fact 32 (f := .glo "_law_all_names") rfl)
  f__law_first := c.t.d.def_ 33 (d := LawHd.d__law_first) rfl
  g__law_first := He.glo_ok KX G (c.t.d.fact 33 (f := .glo "_law_first") rfl)
  f__law_two_right := c.t.d.def_ 34 (d := LawHd.d__law_two_right) rfl
  g__law_two_right := He.glo_ok KX G (c.t.d.fact 34 (f := .glo "_law_two_right") rfl)
  f__law_right := c.t.d.def_ 35 (d := LawHd.d__law_right) rfl
  g__law_right := He.glo_ok KX G (c.t.d.fact 35 (f := .glo "_law_right") rfl)
  f_law := c.t.d.def_ 36 (d := LawHd.d_law) rfl
  g_law := He.glo_ok KX G (c.t.d.fact 36 (f := .glo "law") rfl)
  b_isinstance := He.free_ok KX G (c.t.d.fact 37 (f := .free "isinstance") rfl)
  b_int := He.free_ok KX G (c.t.d.fact 38 (f := .free "int") rfl)
  b_bool := He.free_ok KX G (c.t.d.fact 39 (f := .free "bool") rfl)
  b_list := He.free_ok KX G (c.t.d.fact 40 (f := .free "list") rfl)
  b_tuple := He.free_ok KX G (c.t.d.fact 41 (f := .free "tuple") rfl)
  b_len := He.free_ok KX G (c.t.d.fact 42 (f := .free "len") rfl)
  b_all := He.free_ok KX G (c.t.d.fact 43 (f := .free "all") rfl)
  b_zip := He.free_ok KX G (c.t.d.fact 44 (f := .free "zip") rfl)
  b_range := He.free_ok KX G (c.t.d.fact 45 (f := .free "range") rfl)
  b_set := He.free_ok KX G (c.t.d.fact 46 (f := .free "set") rfl)
  b_sorted := He.free_ok KX G (c.t.d.fact 47 (f := .free "sorted") rfl)
  b_str := He.free_ok KX G (c.t.d.fact 48 (f := .free "str") rfl)
  b_abs := He.free_ok KX G (c.t.d.fact 49 (f := .free "abs") rfl)
  b_max := He.free_ok KX G (c.t.d.fact 50 (f := .free "max") rfl)
  b_divmod := He.free_ok KX G (c.t.d.fact 51 (f := .free "divmod") rfl)
  b_min := He.free_ok KX G (c.t.d.fact 52 (f := .free "min") rfl)
  b_repr := He.free_ok KX G (c.t.d.fact 53 (f := .free "repr") rfl)
  c_MOST_THINGS := He.int_ok KX G (c.t.d.fact 54 (f := .int "MOST_THINGS" 6) rfl)
  c_NAMES_WORD := He.str_ok KX G (c.t.d.fact 55 (f := .str "NAMES_WORD" "names") rfl)
  c_FORMS_WORD := He.str_ok KX G (c.t.d.fact 56 (f := .str "FORMS_WORD" "forms") rfl)
  tabD := by
    have e := of_decide_eq_true c.more
    unfold LawHd.tf at e
    unfold Wk.lamN
    exact e
theorem law_at {P : Program} {w : World} {h : Heap} {mg : Str → Option Value} (G : h.Ns mainGlobals mg) (Y : LawHd.hk.says w h) : ∃ (K : PySem.W.Frag) (cs : List (Addr × Addr)) (Tb : List (Addr × Str)), K.In h ∧
      (∀ p ∈ cs, h.get? p.2 = some { cls := .none, data := .fields #[] }) ∧ (∀ p ∈ cs, K.lookup p.2 = none) ∧ (∀ p ∈ cs, PySem.W.CodeHd h p.1 p.2) ∧ (∀ p ∈ Tb, p.1 ∈ cs.map (·.2)) ∧
      ∀ base : Heap, K.In base → base.Ns mainGlobals mg → (∀ p ∈ cs, TabB base mg p.1 p.2) → FnG P w K mg base Tb (Cal P w K mg base Tb) "law" (LawHd.top 51) ["script"] 32 Wk.d_law := by
  obtain ⟨K, KX, c⟩ := Y
  have etf : LawHd.tf = Wk.lamN.map fun n => (n, none) := rfl
  have mem : ∀ p ∈ LawHd.tf.map (He.cT K), ∃ q ∈ LawHd.tf, p = He.cT K q := fun p hp => by
    obtain ⟨q, hq, e⟩ := List.mem_map.mp hp
    exact ⟨q, hq, e.symm⟩
  refine ⟨K, LawHd.tf.map (He.cT K), Wk.TbL K, KX, fun p hp => ?_, fun p hp => ?_, fun p hp => ?_, fun p hp => ?_, fun base _ _ hT => Wk.g_law (facts KX G c) ⟨fun n hn => hT _ (List.mem_map.mpr ⟨(n, none), ?_, rfl⟩)⟩⟩
  · obtain ⟨q, hq, rfl⟩ := mem p hp
    exact c.empty q hq
  · obtain ⟨q, hq, rfl⟩ := mem p hp
    exact c.out q hq
  · obtain ⟨q, hq, rfl⟩ := mem p hp
    exact PySem.W.codeHd_of_K KX (c.hd q hq)
  · obtain ⟨n, hn, rfl⟩ := List.mem_map.mp hp
    exact List.mem_map.mpr ⟨He.cT K (n, none), List.mem_map.mpr ⟨(n, none), by rw [etf]; exact List.mem_map.mpr ⟨n, hn, rfl⟩, rfl⟩, rfl⟩
  · rw [etf]
    exact List.mem_map.mpr ⟨n, hn, rfl⟩
end Fin
open PySem PySem.W PySem.Calls PyProof.Rows
theorem law_holds : PySem.Challenge.rw_pairsled_k94_whole_alike_papers.Holds := by
  w_on; o_law
  refine HandSHeadRun.head_any (r := OpenLaw.row PySem.Challenge.rw_pairsled_k94_whole_alike_papers) (q := view (OpenLaw.row PySem.Challenge.rw_pairsled_k94_whole_alike_papers).prog [51]) (H := LawHd.hk) (ob := LawHd.ob) (M := 4000) (loose := LawHd.loose) (d := HandSHeadRun.topDef (OpenLaw.row PySem.Challenge.rw_pairsled_k94_whole_alike_papers).prog 51) (kwd := []) LawHd.ob_eq
    (by kernel_rfl) (fun s => by kernel_rfl) LawHd.run (by kernel_rfl) (by kernel_rfl) (by kernel_rfl) (by rfl) (by first | assumption | decide +kernel) (by decide +kernel) ⟨rfl, rfl, rfl, rfl, rfl, by decide +kernel⟩ ?hw ?hc
  case hw => w_witness2
  case hc =>
    exact Dn.walk_G (l := PySem.Challenge.rw_pairsled_k94_whole_alike_papers) (n := 63) (k := 32) (st := LawHd.top 51) (x := "law") (arg := "script") (d := Wk.d_law) (by kernel_rfl) rfl (by decide) (by kernel_rfl) ⟨rfl, by decide, by decide⟩
      (fun w mg fa h Y G _ => Fin.law_at G Y) LawTrue.law_true
end
theorem PySem.Challenge.cw_pairsled_k94_whole_alike_papers_holds : PySem.Challenge.rw_pairsled_k94_whole_alike_papers.Holds :=
  law_holds
