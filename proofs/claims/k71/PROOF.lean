import PyProof.Rows.All
import Wide.All
import OpenK.AllK
import Wide.FinOn
import KE.SortData
import HandS.TupSets
import HandS.ForMost
import HandS.Zip
import HandS.IsInst
import HandS.TupAny
import HandS.TupMul
import HandS.Conv
import HandS.Walk
import HandS.Style
import HandS.Defaults
import HandS.Lambda
import HandS.Nested
import HandS.HeadHook2
import HandS.Deep
import KE.DataCmp
import KE.DataMinMax
import HandS.Strs
import HandS.SetFor
import HandS.HeadHook4
import KE.KeyNested
import HandS.Iter
import HandS.Zip0
import HandS.HeadWalk
import HandS.Head2
import HandS.WordsExc
import HandS.WordsList
import HandS.WordsDict
import PySem.Challenge.RW_pairsled_k71_whole_full_blocks_and_close
section
set_option Elab.async false
set_option linter.all false
set_option autoImplicit false
set_option maxRecDepth 100000
/-! Sx: sorting of tuples of which some are empty. -/
namespace Sx
open PySem PySem.W PySem.SeqAt PyProof.Rows

section
variable {prog : Program} {w : World} {A : Around} {E : Value → Shared → Prop} {s : Shared}
/-- tuple's own order, asked directly -/
theorem tup_lt_call {Q : Value → Shared → Prop} {l b : Addr} {us ws : Array Value} {e r : Nat → Bool} (hl : s.heap.IsTuple l us) (hb : s.heap.IsTuple b ws)
    (he : ∀ j (h1 : j < us.size) (h2 : j < ws.size), EqAt A.in1 s us[j] ws[j] (e j)) (hr : ∀ j (h1 : j < us.size) (h2 : j < ws.size), e j = false → RcLt A.in1 s us[j] ws[j] (r j))
    (h : Q (.bool (firstLt e r (decide (us.size < ws.size)) (List.range (min us.size ws.size)))) s) : wpAny (model prog w) A (call (.builtin "tuple.__lt__") [.ref l, .ref b]) Q E s := by
  obtain ⟨⟨c1, d1, dat1, s1⟩, g1, k1, n1, m1⟩ := id hl
  obtain ⟨⟨c2, d2, dat2, s2⟩, g2, k2, n2, m2⟩ := id hb
  dsimp only at k1 m1 k2 m2
  subst k1 m1 k2 m2
  exact call_meets F.slot_tuple_lt ⟨_, g1, rfl⟩ F.entry_tuple_lt (F.args_tuple_lt_2 _ _) (tuple_ltAt l b us ws n1 n2 d1 d2 s1 s2 e r) ⟨g1, g2, he, hr, h⟩
/-- two tuples as sorting compares things of one type -/
theorem one_tup {xs ys : List PyData} {a b : Value} {as bs : List Addr} {Q : Bool → Shared → Prop} (ra : Reads s.heap a (.tuple xs) as) (rb : Reads s.heap b (.tuple ys) bs) (h : alikeAll xs ys = true)
    (hu : A.units + min (PyData.tuple xs).depth (PyData.tuple ys).depth < cLine) (hq : Q (dataLt (.tuple xs) (.tuple ys)) s) : wpAny (model prog w) A (oneLt' true a b) Q E s := by
  cases ra with
  | @tuple l o us n _ as1 h1 h2 h3 h4 =>
    cases rb with
    | @tuple l2 o2 ws n2 _ bs1 k1 k2 k3 k4 =>
      have z1 : us.size = xs.length := by simpa using ReadsAll.length _ _ _ h4
      have z2 : ws.size = ys.length := by simpa using ReadsAll.length _ _ _ k4
      rw [dataLt_tuple, ← firstLt_toks xs ys h, ← z1, ← z2] at hq
      rw [oneLt'_eq]
      simp only [if_true]
      refine wpAny_bind (wpAny_cRoomFor (room_here hu) ?_)
      refine wpAny_bind (wpAny_callSpecialIfBound?_slot (T := "tuple") ⟨_, h1, h2⟩ F.slot_tuple_lt (tup_lt_call (e := pairEq xs ys) (r := fun j => dataLt (xs.getD j .none) (ys.getD j .none)) ⟨_, h1, h2, _, h3⟩ ⟨_, k1, k2, _, k3⟩ (fun j j1 j2 => ?_) (fun j j1 j2 hj => ?_) ?_))
      · have z := eqAt_alikeAll xs ys A.in1 s us.toList ws.toList _ _ h4 k4 h (room_in hu) j (by simpa using j1) (by simpa using j2)
        simpa using z
      · have z := rcLt_alikeAll xs ys A.in1 s us.toList ws.toList _ _ h4 k4 h (room_in hu) j (by simpa using j1) (by simpa using j2) hj
        simpa using z
      · exact wpAny_truthy_bool hq
/-- what is asked of the first items -/
theorem firsts_any {M : Model} : ∀ {vs : List Value} {ds : List PyData} {Q : List (Option Value) → Shared → Prop}, EachIs (fun v d => ∃ as, Reads s.heap v d as) vs ds → (∀ d, d ∈ ds → ∃ xs, d = .tuple xs) →
    (∀ fs : List (Option Value), EachIs (fun f d => f.isSome = true ↔ ∃ x r, d = PyData.tuple (x :: r)) fs ds → Q fs s) → wpAny M A (vs.mapM firstOfTuple') Q E s
  | _, _, _, .nil, _, h => by
    rw [List.mapM_nil]
    exact wpAny_pure (h [] .nil)
  | v :: vs, d :: ds, Q, .cons ⟨as, r⟩ t, ht, h => by
    obtain ⟨xs, rfl⟩ := ht _ (List.mem_cons_self ..)
    cases r with
    | @tuple a o us n _ _ ho hc hd hr =>
      rw [List.mapM_cons]
      refine wpAny_bind ?_
      rw [kas_first_eq]
      refine wpAny_bind (Looks.here (show Looks M s.heap (typeOf (.ref a)) o.cls from (Looks.ld ho).andThen .now) ?_)
      rw [hc, if_neg (by first | decide | simp)]
      refine wpAny_bind (listItems_at ho hd (wpAny_pure ?_))
      refine wpAny_bind (firsts_any (Q := fun fs s' => wpAny M A (pure (us[0]? :: fs)) Q E s') t (fun d hd => ht d (List.mem_cons_of_mem _ hd)) fun fs hfs => wpAny_pure (h _ (.cons ?_ hfs)))
      have z : us.size = xs.length := by simpa using ReadsAll.length _ _ _ hr
      constructor
      · intro hs
        cases xs with
        | nil =>
          have z0 : us.size = 0 := z
          have e : us[0]? = none := Array.getElem?_eq_none (by rw [z0]; exact Nat.le_refl _)
          rw [e] at hs
          cases hs
        | cons x xs => exact ⟨x, xs, rfl⟩
      · rintro ⟨x, r, e⟩
        injection e with e
        subst e
        have : 0 < us.size := by rw [z]; exact Nat.succ_pos _
        rw [Array.getElem?_eq_getElem this]
        rfl
end
/-- all are tuples, or none is a tuple or None -/
def SortableX (ds : List PyData) : Prop := (∀ d, d ∈ ds → ∃ xs, d = .tuple xs) ∨ ∀ d, d ∈ ds → d ≠ .none ∧ ∀ xs, d ≠ .tuple xs
theorem some_empty {ds : List PyData} (ht : ∀ d, d ∈ ds → ∃ xs, d = PyData.tuple xs) : (∀ d, d ∈ ds → ∃ x r, d = PyData.tuple (x :: r)) ∨ PyData.tuple [] ∈ ds := by
  by_cases h : PyData.tuple [] ∈ ds
  · exact .inr h
  · refine .inl fun d hd => ?_
    obtain ⟨xs, rfl⟩ := ht d hd
    cases xs with
    | nil => exact absurd hd h
    | cons x r => exact ⟨x, r, rfl⟩
theorem each_right {α β : Type} {R : α → β → Prop} : ∀ {as : List α} {bs : List β}, EachIs R as bs → ∀ b, b ∈ bs → ∃ a, a ∈ as ∧ R a b
  | _, _, .nil, _, h => by cases h
  | _, _, .cons h t, b, hb => by
    rcases List.mem_cons.mp hb with rfl | hb
    · exact ⟨_, List.mem_cons_self .., h⟩
    · obtain ⟨a, h1, h2⟩ := each_right t b hb
      exact ⟨a, List.mem_cons_of_mem _ h1, h2⟩
section
variable {prog : Program} {w : World} {A : Around} {s : Shared}
theorem sortsAt {vs : List Value} {ds : List PyData} (e : EachIs (fun v d => ∃ as, Reads s.heap v d as) vs ds) (hal : AllAlike ds) (hk : SortableX ds) (hu : ∀ d, d ∈ ds → A.units + d.depth < cLine) : SortsAt prog w A s (dataKind s.heap ds) vs := by
  rcases hk with ht | hn
  · rcases some_empty ht with h1 | h0
    · exact SortsAt.data e hal (.inl h1) hu
    · have room : ∀ {d d' : PyData}, d ∈ ds → A.units + min d.depth d'.depth < cLine := fun {d d'} hd => Nat.lt_of_le_of_lt (Nat.add_le_add_left (Nat.min_le_left _ _) _) (hu d hd)
      have keys : ∀ v, v ∈ vs → ∃ a, (dataKind s.heap ds).keyOf v = some a := fun v hv => by
        obtain ⟨d, hd, as, r⟩ := e.left v hv
        exact ⟨_, dataKind_some hal hd r⟩
      have isT : ∀ v ∈ vs, Looks (model prog w) s.heap (typeOf v) (Value.type "tuple") := fun v hv => by
        obtain ⟨d, hd, as, r⟩ := e.left v hv
        obtain ⟨xs, rfl⟩ := ht d hd
        exact looks_reads r
      -- by the first one
      by_cases hf : ∃ v vs' x r ds', vs = v :: vs' ∧ ds = PyData.tuple (x :: r) :: ds'
      · refine ⟨keys, general', ?_, fun h2 E Q hq => ?_⟩
        · intro E x y a b Q ha hb hq
          obtain ⟨d, as, hd, ra, rfl⟩ := dataKind_inv ha
          obtain ⟨d', as', hd', rb, rfl⟩ := dataKind_inv hb
          obtain ⟨xs, rfl⟩ := ht d hd
          exact oneLt_alike (f := false) (fun z => absurd z Bool.false_ne_true) ra rb (hal _ hd d' hd') (fun z => PyData.noConfusion z) (room hd) hq
        · rw [kat_kind_eq, List.mapM_toArray, map_eq_pure_bind]
          refine wpAny_bind (wpAny_bind (firsts_any e ht fun fs hfs => wpAny_pure ?_))
          obtain ⟨v, vs', x, r, ds', rfl, rfl⟩ := hf
          have nall : (fs.toArray.all fun x => x.isSome) = false := by
            obtain ⟨f, hm, hi⟩ := each_right hfs _ h0
            refine Bool.eq_false_iff.mpr fun z => ?_
            have z := List.all_eq_true.mp (by simpa only [List.all_toArray] using z) f hm
            obtain ⟨_, _, q⟩ := hi.mp z
            simp at q
          rw [nall, if_neg Bool.false_ne_true]
          cases hfs with
          | @cons f _ _ _ hi _ =>
            have z := hi.mpr ⟨x, r, rfl⟩
            rw [if_pos (by simpa using z)]
            exact wpAny_pure hq
      · refine ⟨keys, oneType', ?_, fun h2 E Q hq => ?_⟩
        · intro E x y a b Q ha hb hq
          obtain ⟨d, as, hd, ra, rfl⟩ := dataKind_inv ha
          obtain ⟨d', as', hd', rb, rfl⟩ := dataKind_inv hb
          obtain ⟨xs, rfl⟩ := ht d hd
          obtain ⟨ys, rfl⟩ := ht d' hd'
          rw [keyLt'_oneType]
          exact one_tup ra rb (by simpa [alike] using hal _ hd _ hd') (room hd) hq
        · rw [kat_kind_eq, List.mapM_toArray, map_eq_pure_bind]
          refine wpAny_bind (wpAny_bind (firsts_any e ht fun fs hfs => wpAny_pure ?_))
          have nall : (fs.toArray.all fun x => x.isSome) = false := by
            obtain ⟨f, hm, hi⟩ := each_right hfs _ h0
            refine Bool.eq_false_iff.mpr fun z => ?_
            have z := List.all_eq_true.mp (by simpa only [List.all_toArray] using z) f hm
            obtain ⟨_, _, q⟩ := hi.mp z
            simp at q
          rw [nall, if_neg Bool.false_ne_true]
          have n0 : (fs.toArray[0]?.bind id).isSome = false := by
            cases e with
            | nil => simp at h2
            | @cons v d vs' ds' r0 t =>
              cases hfs with
              | @cons f _ fs' _ hi _ =>
                cases q : f with
                | none => simp
                | some u =>
                  obtain ⟨x, r, q2⟩ := hi.mp (by rw [q]; rfl)
                  exact absurd ⟨v, vs', x, r, ds', rfl, by rw [q2]⟩ hf
          rw [n0, if_neg Bool.false_ne_true]
          rw [oneTypeOnly'_eq, List.mapM_toArray, map_eq_pure_bind]
          refine wpAny_bind (wpAny_bind (wpAny_bind (kas_mapM (r := Value.type "tuple") _ (fun v hv Q' hq => (isT v hv).here hq) (wpAny_pure ?_))))
          have hall : ((List.map (fun _ => Value.type "tuple") vs).toArray.all fun x => x == Value.type "tuple") = true := by
            simp only [List.all_toArray, List.all_map, List.all_eq_true]
            intro _ _
            first | rfl | decide
          have h00 : (List.map (fun _ => Value.type "tuple") vs).toArray[0]? = some (Value.type "tuple") := by
            cases vs with
            | nil => simp at h2
            | cons v vs => simp
          rw [h00]
          simp only [hall, if_true]
          exact wpAny_pure (wpAny_pure hq)
  · exact SortsAt.data e hal (.inr hn) hu
/-- sorted(xs) -/
theorem sorted_x {β : Type} {vs : List Value} {bs : List β} {enc : β → PyData} {R : Value → β → Prop} {E : Value → Shared → Prop} {l : Addr} {Q : Value → Shared → Prop} (hl : s.heap.IsList l vs.toArray) (e : EachIs R vs bs) (er : EachIs (fun v b => ∃ as, Reads s.heap v (enc b) as) vs bs) (hal : AllAlike (bs.map enc)) (hk : SortableX (bs.map enc)) (hL : bs.length ≤ sizeLine)
    (hu : ∀ b, b ∈ bs → A.units + 2 + (enc b).depth < cLine) (h : ∀ out, out.length = bs.length → EachIs R out (bs.mergeSort (dataLe false enc)) → Q (.ref (s.heap.objs.size + 1)) { s with heap := sortedAll s.heap vs (List.toArray out) }) :
    wpAny (model prog w) A (call (.builtin "sorted") [.ref l]) Q E s := by
  have er2 : EachIs (fun v b => ∃ as, Reads (sortingHeap (copyHeap s.heap vs) (s.heap.objs.size + 1) vs) v (enc b) as) vs bs := er.mono fun _ _ ⟨as, r⟩ => ⟨as, PyProof.Rows.Reads.keeps (fun _ _ => sorting_copy_old) r⟩
  exact sorted_vals hl (sortsAt (s := { s with heap := sortingHeap (copyHeap s.heap vs) (s.heap.objs.size + 1) vs }) (each_map (R := fun v d => ∃ as, Reads (sortingHeap (copyHeap s.heap vs) (s.heap.objs.size + 1) vs) v d as) enc er2) hal hk (bound_map hu)) (by rw [e.length]; exact hL)
    (h _ (by rw [sortVals_length false rfl]; exact e.length) (sortVals_data false e er2 hal))
end
end Sx
end
section
set_option Elab.async false
set_option linter.all false
set_option autoImplicit false
set_option maxRecDepth 100000
/-! Dn0: denotations over the hand layer: computations with draws, worlds, what the slots hold. -/
namespace Dn
open PySem PySem.Spec PyProof.Rows L2 LamX

/-! ### computations: done, stuck, or a draw below n -/
inductive T (α : Type) where
  | err
  | ret (a : α)
  | draw (n : Nat) (k : Nat → T α)
def T.bind {α β : Type} : T α → (α → T β) → T β
  | .err, _ => .err
  | .ret a, f => f a
  | .draw n k, f => .draw n fun d => (k d).bind f
instance : Monad T where
  pure := T.ret
  bind := T.bind
def Hold {α : Type} : T α → (α → Prop) → Prop
  | .err, _ => False
  | .ret a, p => p a
  | .draw n k, p => 0 < n ∧ ∀ d, d < n → Hold (k d) p
theorem Hold.mono {α : Type} {p q : α → Prop} (h : ∀ a, p a → q a) : ∀ {m : T α}, Hold m p → Hold m q
  | .err, z => z
  | .ret _, z => h _ z
  | .draw _ _, z => ⟨z.1, fun d hd => Hold.mono h (z.2 d hd)⟩
theorem Hold.bind {α β : Type} {f : α → T β} {q : β → Prop} : ∀ {m : T α}, Hold (m.bind f) q → Hold m fun a => Hold (f a) q
  | .err, z => z
  | .ret _, z => z
  | .draw _ _, z => ⟨z.1, fun d hd => Hold.bind (z.2 d hd)⟩
theorem Hold.bind' {α β : Type} {f : α → T β} {q : β → Prop} : ∀ {m : T α}, (Hold m fun a => Hold (f a) q) → Hold (m.bind f) q
  | .err, z => z
  | .ret _, z => z
  | .draw _ _, z => ⟨z.1, fun d hd => Hold.bind' (z.2 d hd)⟩
theorem Hold.and {α : Type} {p q : α → Prop} : ∀ {m : T α}, Hold m p → Hold m q → Hold m fun a => p a ∧ q a
  | .err, z, _ => z
  | .ret _, z, z' => ⟨z, z'⟩
  | .draw _ _, z, z' => ⟨z.1, fun d hd => Hold.and (z.2 d hd) (z'.2 d hd)⟩

/-! ### what a name may hold -/
inductive AV where
  /-- nothing that is known -/
  | no
  /-- data that stays as it is -/
  | sh (d : PyData)
  /-- a list that nobody else holds -/
  | own (ds : List PyData)
  /-- a pot of numbers -/
  | pot
  /-- a function of data -/
  | fn (g : List PyData → T PyData)
abbrev Env := List AV
/-- what nobody changes; where pots stand -/
structure Wd where
  Φ : Hp
  P : Addr → Prop
structure Ext (W W' : Wd) : Prop where
  φ : ∀ a o, W.Φ a = some o → W'.Φ a = some o
  p : ∀ a, W.P a → W'.P a
theorem Ext.refl (W : Wd) : Ext W W := ⟨fun _ _ h => h, fun _ h => h⟩
theorem Ext.trans {W W1 W2 : Wd} (a : Ext W W1) (b : Ext W1 W2) : Ext W W2 := ⟨fun c o h => b.φ c o (a.φ c o h), fun c h => b.p c (a.p c h)⟩
def PotOk (i j : Int) : Prop := 0 ≤ i ∧ i.natAbs < 2 ^ 2000000 ∧ 0 ≤ j ∧ j < 2147483648

/-! ### data in a part of the heap -/
section
variable {K : PySem.W.Frag} {H H' : Hp}
theorem rd_le {a : Addr} {u : HO} (e : ∀ a o, H a = some o → H' a = some o) (h : Rd H a u) : Rd H' a u := by
  rcases h with h | ⟨o, h⟩
  · exact .inl (e _ _ h)
  · exact .inr ⟨o, e _ _ h⟩
theorem sqL_le {a : Addr} {xs : List V} (e : ∀ a o, H a = some o → H' a = some o) (h : SqL K H a xs) : SqL K H' a xs := h.imp (rd_le e) id
theorem sqT_le {a : Addr} {xs : List V} (e : ∀ a o, H a = some o → H' a = some o) (h : SqT K H a xs) : SqT K H' a xs := h.imp (rd_le e) id
mutual
theorem dp_le (e : ∀ a o, H a = some o → H' a = some o) : ∀ (d : PyData) (v : V), Dp K H v d → Dp K H' v d
  | .none, _, h => by cases h; exact .non
  | .bool b, _, h => by cases h; exact .bl b
  | .int i, _, h => by cases h; exact .int i
  | .str x, _, h => by cases h; exact .str x
  | .list ds, _, h => by
    cases h with
    | lst hs ha => exact .lst (sqL_le e hs) (dpAll_le e ds _ ha)
  | .tuple ds, _, h => by
    cases h with
    | tup hs ha => exact .tup (sqT_le e hs) (dpAll_le e ds _ ha)
  | .dict _, _, h => by cases h
theorem dpAll_le (e : ∀ a o, H a = some o → H' a = some o) : ∀ (ds : List PyData) (vs : List V), DpAll K H vs ds → DpAll K H' vs ds
  | [], _, h => by cases h; exact .nil
  | d :: ds, _, h => by
    cases h with
    | cons h1 h2 => exact .cons (dp_le e d _ h1) (dpAll_le e ds _ h2)
end
theorem DpAll.len : ∀ {vs : List V} {ds : List PyData}, DpAll K H vs ds → vs.length = ds.length
  | [], _, h => by cases h; rfl
  | _ :: vs, _, h => by
    cases h with
    | cons h1 h2 => rw [List.length_cons, List.length_cons, DpAll.len h2]
theorem DpAll.get : ∀ {vs : List V} {ds : List PyData} {i : Nat} {d : PyData}, DpAll K H vs ds → ds[i]? = some d → ∃ v, vs[i]? = some v ∧ Dp K H v d
  | _, [], i, d, h, e => by simp at e
  | _, _ :: ds, 0, d, h, e => by
    cases h with
    | cons h1 h2 =>
      simp at e
      subst e
      exact ⟨_, rfl, h1⟩
  | _, _ :: ds, i + 1, d, h, e => by
    cases h with
    | cons h1 h2 => exact DpAll.get (i := i) h2 (by simpa using e)
theorem DpAll.getV : ∀ {vs : List V} {ds : List PyData} {i : Nat} {v : V}, DpAll K H vs ds → vs[i]? = some v → ∃ d, ds[i]? = some d ∧ Dp K H v d
  | [], _, i, d, h, e => by simp at e
  | _ :: vs, _, 0, d, h, e => by
    cases h with
    | cons h1 h2 =>
      simp at e
      subst e
      exact ⟨_, rfl, h1⟩
  | _ :: vs, _, i + 1, d, h, e => by
    cases h with
    | cons h1 h2 => exact DpAll.getV (i := i) h2 (by simpa using e)
theorem DpAll.app : ∀ {vs ws : List V} {ds es : List PyData}, DpAll K H vs ds → DpAll K H ws es → DpAll K H (vs ++ ws) (ds ++ es)
  | [], _, _, _, h, h' => by cases h; exact h'
  | _ :: vs, _, _, _, h, h' => by
    cases h with
    | cons h1 h2 => exact .cons h1 (DpAll.app h2 h')
theorem DpAll.one {v : V} {d : PyData} (h : Dp K H v d) : DpAll K H [v] [d] := .cons h .nil
theorem DpAll.of : ∀ {vs : List V} {ds : List PyData}, vs.length = ds.length → (∀ (i : Nat) (v : V) (d : PyData), vs[i]? = some v → ds[i]? = some d → Dp K H v d) → DpAll K H vs ds
  | [], [], _, _ => .nil
  | [], _ :: _, h, _ => by simp at h
  | _ :: _, [], h, _ => by simp at h
  | v :: vs, d :: ds, h, f => .cons (f 0 v d rfl rfl) (DpAll.of (by simpa using h) fun i w e a b => f (i + 1) w e (by simpa using a) (by simpa using b))
theorem DpAll.take : ∀ {vs : List V} {ds : List PyData} (n : Nat), DpAll K H vs ds → DpAll K H (vs.take n) (ds.take n)
  | _, _, 0, _ => .nil
  | [], _, _ + 1, h => by cases h; exact .nil
  | _ :: _, _, n + 1, h => by
    cases h with
    | cons h1 h2 => exact .cons h1 (DpAll.take n h2)
theorem DpAll.drop : ∀ {vs : List V} {ds : List PyData} (n : Nat), DpAll K H vs ds → DpAll K H (vs.drop n) (ds.drop n)
  | _, _, 0, h => h
  | [], _, _ + 1, h => by cases h; exact .nil
  | _ :: _, _, n + 1, h => by
    cases h with
    | cons h1 h2 => exact DpAll.drop n h2
theorem DpAll.set : ∀ {vs : List V} {ds : List PyData} {v : V} {d : PyData} (n : Nat), DpAll K H vs ds → Dp K H v d → DpAll K H (vs.set n v) (ds.set n d)
  | [], _, _, _, _, h, _ => by cases h; exact .nil
  | _ :: _, _, _, _, 0, h, q => by
    cases h with
    | cons h1 h2 => exact .cons q h2
  | _ :: _, _, _, _, n + 1, h, q => by
    cases h with
    | cons h1 h2 => exact .cons h1 (DpAll.set n h2 q)
theorem DpAll.erase : ∀ {vs : List V} {ds : List PyData} (n : Nat), DpAll K H vs ds → DpAll K H (vs.eraseIdx n) (ds.eraseIdx n)
  | [], _, _, h => by cases h; exact .nil
  | _ :: _, _, 0, h => by
    cases h with
    | cons h1 h2 => exact h2
  | _ :: _, _, n + 1, h => by
    cases h with
    | cons h1 h2 => exact .cons h1 (DpAll.erase n h2)
theorem DpAll.ints : ∀ (ns : List Int), DpAll K H (ns.map V.int) (ns.map PyData.int)
  | [] => .nil
  | n :: ns => .cons (.int n) (DpAll.ints ns)
end

/-! ### the world is held -/
section
variable (K : PySem.W.Frag) (Tb : List (Addr × Str)) (B : Wd → V → (List PyData → T PyData) → Prop)
structure WOk (W : Wd) (F H : Hp) : Prop where
  fz : ∀ a o, W.Φ a = some o → H a = some o
  fr : ∀ a o, F a = some o → H a = some o
  dj : ∀ a o, F a = some o → W.Φ a = none ∧ ¬ W.P a
  pt : ∀ a, W.P a → W.Φ a = none ∧ ∃ i j, H a = some (.lst [.int i, .int j]) ∧ PotOk i j
  tb : Tabs Tb H
  nt : ∀ a o, (W.Φ a = some o ∨ F a = some o) → ∀ ps, o ≠ .tbl ps
  sz : ∀ a xs, (Rd W.Φ a (.lst xs) ∨ Rd W.Φ a (.tup xs)) → xs.length ≤ sizeLine
  fl : ∀ a o, F a = some o → ∃ vs, o = .lst vs
/-- a value holds what it is said to -/
def VOk (W : Wd) (v : V) : AV → Prop
  | .sh d => Dp K W.Φ v d
  | .pot => ∃ a, v = .ref a ∧ W.P a
  | .fn g => ∃ W0, Ext W0 W ∧ B W0 v g
  | _ => False
/-- the slots -/
structure SOk (W : Wd) (F : Hp) (ρ : Env) (σ : L2.St) (H : Hp) : Prop where
  len : ρ.length = σ.length
  sh : ∀ (i : Nat) (av : AV), ρ[i]? = some av → av ≠ .no → (∀ ds, av ≠ .own ds) → ∃ v, σ[i]? = some (some v) ∧ VOk K B W v av
  own : ∀ (i : Nat) (ds : List PyData), ρ[i]? = some (.own ds) → ∃ a vs, σ[i]? = some (some (.ref a)) ∧ H a = some (.lst vs) ∧ vs.length ≤ sizeLine ∧ W.Φ a = none ∧ F a = none ∧ ¬ W.P a ∧ DpAll K W.Φ vs ds
  ne : ∀ (i j : Nat) (ds es : List PyData) (a : Addr), i ≠ j → ρ[i]? = some (.own ds) → ρ[j]? = some (.own es) → σ[i]? = some (some (.ref a)) → σ[j]? ≠ some (some (.ref a))
structure Sim (W : Wd) (F : Hp) (ρ : Env) (σ : L2.St) (H : Hp) : Prop where
  w : WOk Tb W F H
  s : SOk K B W F ρ σ H
/-- data that can be read -/
def Rb (W : Wd) (H : Hp) (v : V) : PyData → Prop
  | .list ds => ∃ a vs, v = .ref a ∧ SqL K H a vs ∧ vs.length ≤ sizeLine ∧ DpAll K W.Φ vs ds
  | d => Dp K W.Φ v d
end
section
variable {K : PySem.W.Frag} {Tb : List (Addr × Str)} {B : Wd → V → (List PyData → T PyData) → Prop} {W W' : Wd} {F F' H H' : Hp} {ρ ρ' : Env} {σ σ' : L2.St}
theorem VOk.ext {v : V} {av : AV} (e : Ext W W') (h : VOk K B W v av) : VOk K B W' v av := by
  cases av with
  | sh d => exact dp_le e.φ _ _ h
  | pot => obtain ⟨a, h1, h2⟩ := h; exact ⟨a, h1, e.p _ h2⟩
  | fn g => obtain ⟨W0, e0, h⟩ := h; exact ⟨W0, e0.trans e, h⟩
  | no => exact h
  | own ds => exact h
theorem sqL_sz (w : WOk Tb W F H) {a : Addr} {xs : List V} (h : SqL K W.Φ a xs) : xs.length ≤ sizeLine := by
  rcases h with h | ⟨o, its, n, _, _, _, _, hz, r⟩
  · exact w.sz a xs (.inl h)
  · have e := r.length
    simp only [Array.length_toList] at e
    omega
theorem sqT_sz (w : WOk Tb W F H) {a : Addr} {xs : List V} (h : SqT K W.Φ a xs) : xs.length ≤ sizeLine := by
  rcases h with h | ⟨o, its, n, _, _, _, hz, r⟩
  · exact w.sz a xs (.inr h)
  · have e := r.length
    simp only [Array.length_toList] at e
    omega
theorem Rb.of {v : V} {d : PyData} (w : WOk Tb W F H) (h : Dp K W.Φ v d) : Rb K W H v d := by
  cases d with
  | list ds =>
    cases h with
    | lst hs ha => exact ⟨_, _, rfl, sqL_le w.fz hs, sqL_sz w hs, ha⟩
  | _ => exact h
theorem Rb.dp {v : V} {d : PyData} (w : WOk Tb W F H) (h : Rb K W H v d) : Dp K H v d := by
  cases d with
  | list ds =>
    obtain ⟨a, vs, rfl, h1, _, h2⟩ := h
    exact .lst h1 (dpAll_le w.fz _ _ h2)
  | _ => exact dp_le w.fz _ _ h
/-- less is asked of the frame -/
theorem WOk.frame (w : WOk Tb W F H) (h : ∀ a o, F' a = some o → F a = some o) : WOk Tb W F' H :=
  ⟨w.fz, fun a o e => w.fr a o (h a o e), fun a o e => w.dj a o (h a o e), w.pt, w.tb, fun a o e => w.nt a o (e.imp id (h a o)), w.sz, fun a o e => w.fl a o (h a o e)⟩
theorem upd_le {a : Addr} {o : HO} (hn : F a = none) : ∀ b u, F b = some u → upd F a o b = some u := fun b u e => by rw [upd_ne (ne_of_none e hn)]; exact e
theorem WOk.drop {a : Addr} {o : HO} (hn : F a = none) (w : WOk Tb W (upd F a o) H) : WOk Tb W F H := w.frame (upd_le hn)
theorem SOk.frame (s : SOk K B W F ρ σ H) (h : ∀ a o, F' a = some o → F a = some o) : SOk K B W F' ρ σ H := by
  refine ⟨s.len, s.sh, fun i ds e => ?_, s.ne⟩
  obtain ⟨a, vs, h1, h2, hz, h3, h4, h5⟩ := s.own i ds e
  refine ⟨a, vs, h1, h2, hz, h3, ?_, h5⟩
  cases q : F' a with
  | none => rfl
  | some o =>
    have z := h a o q
    rw [h4] at z
    cases z
theorem Sim.frame (s : Sim K Tb B W F ρ σ H) (h : ∀ a o, F' a = some o → F a = some o) : Sim K Tb B W F' ρ σ H := ⟨s.w.frame h, s.s.frame h⟩
theorem Sim.drop {a : Addr} {o : HO} (hn : F a = none) (s : Sim K Tb B W (upd F a o) ρ σ H) : Sim K Tb B W F ρ σ H := s.frame (upd_le hn)
/-- an owned list that is not in a slot is given to the world -/
theorem WOk.freeze {a : Addr} {vs : List V} (hn : F a = none) (w : WOk Tb W (upd F a (.lst vs)) H) (hz : vs.length ≤ sizeLine) :
    ∃ W', Ext W W' ∧ WOk Tb W' F H ∧ W'.Φ a = some (.lst vs) ∧ (∀ b, b ≠ a → W'.Φ b = W.Φ b) ∧ W'.P = W.P := by
  obtain ⟨d1, d2⟩ := w.dj a _ upd_same
  have hH := w.fr a _ upd_same
  refine ⟨⟨upd W.Φ a (.lst vs), W.P⟩, ⟨upd_le d1, fun _ h => h⟩, ⟨fun b o e => ?_, fun b o e => w.fr b o (upd_le hn b o e), fun b o e => ?_, fun b hb => ?_, w.tb, fun b o e => ?_, fun b xs e => ?_, fun b o e => w.fl b o (upd_le hn b o e)⟩, upd_same, fun b hb => upd_ne hb, rfl⟩
  · dsimp only at e
    by_cases hb : b = a
    · subst hb
      rw [upd_same] at e
      rw [← e]; exact hH
    · rw [upd_ne hb] at e; exact w.fz b o e
  · have hb : b ≠ a := ne_of_none e hn
    obtain ⟨h1, h2⟩ := w.dj b o (upd_le hn b o e)
    exact ⟨by show upd W.Φ a _ b = none; rw [upd_ne hb]; exact h1, h2⟩
  · have hb' : b ≠ a := fun z => d2 (z ▸ hb)
    obtain ⟨h1, h2⟩ := w.pt b hb
    exact ⟨by show upd W.Φ a _ b = none; rw [upd_ne hb']; exact h1, h2⟩
  · dsimp only at e
    by_cases hb : b = a
    · subst hb
      rcases e with e | e
      · rw [upd_same] at e; cases e; intro ps z; cases z
      · exact w.nt b o (.inr (upd_le hn b o e))
    · refine w.nt b o (e.imp (fun e => ?_) (upd_le hn b o))
      rw [upd_ne hb] at e; exact e
  · dsimp only at e
    by_cases hb : b = a
    · subst hb
      rcases e with (e | ⟨q, e⟩) | (e | ⟨q, e⟩) <;> rw [upd_same] at e <;> cases e
      exact hz
    · refine w.sz b xs (e.imp (fun e => ?_) (fun e => ?_)) <;> (rcases e with e | ⟨q, e⟩ <;> rw [upd_ne hb] at e)
      · exact .inl e
      · exact .inr ⟨q, e⟩
      · exact .inl e
      · exact .inr ⟨q, e⟩
theorem SOk.world (s : SOk K B W F ρ σ H) (e : Ext W W') (hf : ∀ b, (∃ (i : Nat) (ds : List PyData), ρ[i]? = some (.own ds) ∧ σ[i]? = some (some (.ref b))) → W.Φ b = none → W'.Φ b = none) (hp : W'.P = W.P) : SOk K B W' F ρ σ H :=
  ⟨s.len, fun i av h1 h2 h3 => by
    obtain ⟨v, q1, q2⟩ := s.sh i av h1 h2 h3
    exact ⟨v, q1, q2.ext e⟩, fun i ds h => by
    obtain ⟨a, vs, h1, h2, hz, h3, h4, h5, h6⟩ := s.own i ds h
    exact ⟨a, vs, h1, h2, hz, hf a ⟨i, ds, h, h1⟩ h3, h4, by rw [hp]; exact h5, dpAll_le e.φ _ _ h6⟩, s.ne⟩
theorem Sim.freeze {a : Addr} {vs : List V} {ds : List PyData} (hn : F a = none) (s : Sim K Tb B W (upd F a (.lst vs)) ρ σ H) (hz : vs.length ≤ sizeLine) (hd : DpAll K W.Φ vs ds) :
    ∃ W', Ext W W' ∧ Sim K Tb B W' F ρ σ H ∧ Dp K W'.Φ (.ref a) (.list ds) := by
  obtain ⟨W', e, w, h1, h2, h3⟩ := s.w.freeze hn hz
  refine ⟨W', e, ⟨w, ?_⟩, .lst (.inl (.inl h1)) (dpAll_le e.φ _ _ hd)⟩
  refine (s.s.frame (upd_le hn)).world e (fun b ⟨i, es, hi, hs⟩ hb => ?_) h3
  obtain ⟨a', vs', q1, q2, _, q3, q4, _⟩ := s.s.own i es hi
  rw [hs] at q1; cases q1
  have hb' : b ≠ a := fun z => by subst z; rw [upd_same] at q4; cases q4
  rw [h2 b hb']; exact hb
/-- something is laid that the world knows from now on -/
theorem Sim.made {p : Addr} {o : HO} (hp : H p = none) (s : Sim K Tb B W F ρ σ H) (ho : ∀ ps, o ≠ .tbl ps) (hz : ∀ xs, (o = .lst xs ∨ o = .tup xs ∨ (∃ q, o = .frz q (.lst xs)) ∨ (∃ q, o = .frz q (.tup xs))) → xs.length ≤ sizeLine) :
    ∃ W', Ext W W' ∧ Sim K Tb B W' F ρ σ (upd H p o) ∧ W'.Φ p = some o := by
  have hW : W.Φ p = none := by
    cases q : W.Φ p with
    | none => rfl
    | some u => rw [s.w.fz p u q] at hp; cases hp
  have hF : F p = none := by
    cases q : F p with
    | none => rfl
    | some u => rw [s.w.fr p u q] at hp; cases hp
  have hP : ¬ W.P p := fun z => by
    obtain ⟨_, i, j, e, _⟩ := s.w.pt p z
    rw [hp] at e; cases e
  have ext : ∀ b u, H b = some u → upd H p o b = some u := upd_le hp
  have e : Ext W ⟨upd W.Φ p o, W.P⟩ := ⟨upd_le hW, fun _ h => h⟩
  refine ⟨⟨upd W.Φ p o, W.P⟩, e, ⟨⟨fun b u e => ?_, fun b u e => ext b u (s.w.fr b u e), fun b u e => ?_, fun b hb => ?_, fun q hq => (s.w.tb q hq).ext ext, fun b u e => ?_, fun b xs e => ?_, s.w.fl⟩, ⟨s.s.len, fun i av h1 h2 h3 => ?_, fun i ds h => ?_, s.s.ne⟩⟩, upd_same⟩
  · dsimp only at e
    by_cases hb : b = p
    · subst hb
      rw [upd_same] at e; rw [upd_same]; exact e
    · rw [upd_ne hb] at e
      exact ext b u (s.w.fz b u e)
  · have hb : b ≠ p := ne_of_none e hF
    obtain ⟨h1, h2⟩ := s.w.dj b u e
    exact ⟨by show upd W.Φ p o b = none; rw [upd_ne hb]; exact h1, h2⟩
  · have hb' : b ≠ p := fun z => hP (z ▸ hb)
    obtain ⟨h1, i, j, h2, h3⟩ := s.w.pt b hb
    exact ⟨by show upd W.Φ p o b = none; rw [upd_ne hb']; exact h1, i, j, ext b _ h2, h3⟩
  · dsimp only at e
    by_cases hb : b = p
    · subst hb
      rcases e with e | e
      · rw [upd_same] at e; cases e; exact ho
      · rw [hF] at e; cases e
    · refine s.w.nt b u (e.imp (fun e => ?_) id)
      rw [upd_ne hb] at e; exact e
  · dsimp only at e
    by_cases hb : b = p
    · subst hb
      rcases e with (e | ⟨q, e⟩) | (e | ⟨q, e⟩) <;> rw [upd_same] at e <;> cases e
      · exact hz xs (.inl rfl)
      · exact hz xs (.inr (.inr (.inl ⟨q, rfl⟩)))
      · exact hz xs (.inr (.inl rfl))
      · exact hz xs (.inr (.inr (.inr ⟨q, rfl⟩)))
    · refine s.w.sz b xs (e.imp (fun e => ?_) (fun e => ?_)) <;> (rcases e with e | ⟨q, e⟩ <;> rw [upd_ne hb] at e)
      · exact .inl e
      · exact .inr ⟨q, e⟩
      · exact .inl e
      · exact .inr ⟨q, e⟩
  · obtain ⟨v, q1, q2⟩ := s.s.sh i av h1 h2 h3
    exact ⟨v, q1, q2.ext e⟩
  · obtain ⟨a, vs, h1, h2, h2z, h3, h4, h5, h6⟩ := s.s.own i ds h
    have ha : a ≠ p := ne_of_none h2 hp
    exact ⟨a, vs, h1, ext a _ h2, h2z, by show upd W.Φ p o a = none; rw [upd_ne ha]; exact h3, h4, h5, dpAll_le e.φ _ _ h6⟩
/-- a new list that nobody else holds -/
theorem Sim.new {p : Addr} {vs : List V} (hp : H p = none) (s : Sim K Tb B W F ρ σ H) : F p = none ∧ Sim K Tb B W (upd F p (.lst vs)) ρ σ (upd H p (.lst vs)) := by
  have hW : W.Φ p = none := by
    cases q : W.Φ p with
    | none => rfl
    | some u => rw [s.w.fz p u q] at hp; cases hp
  have hF : F p = none := by
    cases q : F p with
    | none => rfl
    | some u => rw [s.w.fr p u q] at hp; cases hp
  have hP : ¬ W.P p := fun z => by
    obtain ⟨_, i, j, e, _⟩ := s.w.pt p z
    rw [hp] at e; cases e
  have ext : ∀ b u, H b = some u → upd H p (.lst vs) b = some u := upd_le hp
  refine ⟨hF, ⟨⟨fun b u e => ext b u (s.w.fz b u e), fun b u e => ?_, fun b u e => ?_, fun b hb => ?_, fun q hq => (s.w.tb q hq).ext ext, fun b u e => ?_, s.w.sz, fun b u e => by
    by_cases hb : b = p
    · rw [hb, upd_same] at e; cases e; exact ⟨_, rfl⟩
    · rw [upd_ne hb] at e; exact s.w.fl b u e⟩, ⟨s.s.len, s.s.sh, fun i ds h => ?_, s.s.ne⟩⟩⟩
  · by_cases hb : b = p
    · subst hb
      rw [upd_same] at e; rw [upd_same]; exact e
    · rw [upd_ne hb] at e
      exact ext b u (s.w.fr b u e)
  · by_cases hb : b = p
    · subst hb
      exact ⟨hW, hP⟩
    · rw [upd_ne hb] at e
      exact s.w.dj b u e
  · obtain ⟨h1, i, j, h2, h3⟩ := s.w.pt b hb
    exact ⟨h1, i, j, ext b _ h2, h3⟩
  · by_cases hb : b = p
    · subst hb
      rcases e with e | e
      · rw [hW] at e; cases e
      · rw [upd_same] at e; cases e; intro ps z; cases z
    · refine s.w.nt b u (e.imp id (fun e => ?_))
      rw [upd_ne hb] at e; exact e
  · obtain ⟨a, xs, h1, h2, h2z, h3, h4, h5, h6⟩ := s.s.own i ds h
    have ha : a ≠ p := ne_of_none h2 hp
    exact ⟨a, xs, h1, ext a _ h2, h2z, h3, by rw [upd_ne ha]; exact h4, h5, h6⟩
/-- something is laid that nobody asks for -/
theorem Sim.laid {p : Addr} {o : HO} (hp : H p = none) (s : Sim K Tb B W F ρ σ H) : Sim K Tb B W F ρ σ (upd H p o) := by
  have ext : ∀ b u, H b = some u → upd H p o b = some u := upd_le hp
  refine ⟨⟨fun b u e => ext b u (s.w.fz b u e), fun b u e => ext b u (s.w.fr b u e), s.w.dj, fun b hb => ?_, fun q hq => (s.w.tb q hq).ext ext, s.w.nt, s.w.sz, s.w.fl⟩, ⟨s.s.len, s.s.sh, fun i ds h => ?_, s.s.ne⟩⟩
  · obtain ⟨h1, i, j, h2, h3⟩ := s.w.pt b hb
    exact ⟨h1, i, j, ext b _ h2, h3⟩
  · obtain ⟨a, xs, h1, h2, h2z, h3⟩ := s.s.own i ds h
    exact ⟨a, xs, h1, ext a _ h2, h2z, h3⟩
/-- the heap grows otherwise: all is kept but tables -/
theorem Sim.grown (s : Sim K Tb B W F ρ σ H) (e : ExtN H H') (t : Tabs Tb H') : Sim K Tb B W F ρ σ H' :=
  ⟨⟨fun b u h => e b u (s.w.fz b u h) (s.w.nt b u (.inl h)), fun b u h => e b u (s.w.fr b u h) (s.w.nt b u (.inr h)), s.w.dj, fun b hb => by
    obtain ⟨h1, i, j, h2, h3⟩ := s.w.pt b hb
    exact ⟨h1, i, j, e b _ h2 (fun ps z => by cases z), h3⟩, t, s.w.nt, s.w.sz, s.w.fl⟩, ⟨s.s.len, s.s.sh, fun i ds h => by
    obtain ⟨a, xs, h1, h2, h2z, h3⟩ := s.s.own i ds h
    exact ⟨a, xs, h1, e a _ h2 (fun ps z => by cases z), h2z, h3⟩, s.s.ne⟩⟩

/-! ### slots -/
theorem lt_of_get {α : Type} {l : List α} {i : Nat} {x : α} (h : l[i]? = some x) : i < l.length := (List.getElem?_eq_some_iff.mp h).1
theorem set_get {α : Type} {l : List α} {i j : Nat} {x y : α} (h : (l.set i x)[j]? = some y) : (i = j ∧ x = y) ∨ (i ≠ j ∧ l[j]? = some y) := by
  by_cases e : i = j
  · subst e
    by_cases hl : i < l.length
    · rw [List.getElem?_set_self hl] at h
      exact .inl ⟨rfl, Option.some.inj h⟩
    · rw [List.getElem?_eq_none (by simpa using hl)] at h; cases h
  · rw [List.getElem?_set_ne e] at h
    exact .inr ⟨e, h⟩
theorem Sim.get {i : Nat} {av : AV} (s : Sim K Tb B W F ρ σ H) (h : ρ[i]? = some av) (h1 : av ≠ .no) (h2 : ∀ ds, av ≠ .own ds) : ∃ v, σ[i]? = some (some v) ∧ VOk K B W v av := s.s.sh i av h h1 h2
/-- a slot is set to what is no owned list -/
theorem Sim.set {i : Nat} {v : V} {av : AV} (s : Sim K Tb B W F ρ σ H) (h : VOk K B W v av) : Sim K Tb B W F (ρ.set i av) (σ.set i (some v)) H := by
  have nown : ∀ ds, av ≠ .own ds := fun ds z => by subst z; exact h
  refine ⟨s.w, ⟨by simpa using s.s.len, fun j aw e h1 h2 => ?_, fun j ds e => ?_, fun j k ds es a hjk e1 e2 e3 => ?_⟩⟩
  · rcases set_get e with ⟨rfl, rfl⟩ | ⟨hne, e⟩
    · have hl : i < σ.length := by rw [← s.s.len]; simpa using lt_of_get e
      exact ⟨v, List.getElem?_set_self hl, h⟩
    · obtain ⟨w, q1, q2⟩ := s.s.sh j aw e h1 h2
      exact ⟨w, by rw [List.getElem?_set_ne hne]; exact q1, q2⟩
  · rcases set_get e with ⟨_, z⟩ | ⟨hne, e⟩
    · exact absurd z (nown ds)
    · obtain ⟨a, vs, q1, q2⟩ := s.s.own j ds e
      exact ⟨a, vs, by rw [List.getElem?_set_ne hne]; exact q1, q2⟩
  · rcases set_get e1 with ⟨_, z⟩ | ⟨hne, e1⟩
    · exact absurd z (nown ds)
    · rcases set_get e2 with ⟨_, z⟩ | ⟨hne2, e2⟩
      · exact absurd z (nown es)
      · rw [List.getElem?_set_ne hne] at e3
        rw [List.getElem?_set_ne hne2]
        exact s.s.ne j k ds es a hjk e1 e2 e3
/-- a slot takes an owned list -/
theorem Sim.setOwn {i : Nat} {a : Addr} {vs : List V} {ds : List PyData} (hn : F a = none) (s : Sim K Tb B W (upd F a (.lst vs)) ρ σ H) (hz : vs.length ≤ sizeLine) (hd : DpAll K W.Φ vs ds) : Sim K Tb B W F (ρ.set i (.own ds)) (σ.set i (some (.ref a))) H := by
  have q := s.s.frame (upd_le hn)
  obtain ⟨d1, d2⟩ := s.w.dj a _ upd_same
  have hne : ∀ (j : Nat) (es : List PyData) (b : Addr), ρ[j]? = some (.own es) → σ[j]? = some (some (.ref b)) → b ≠ a := fun j es b e1 e2 z => by
    subst z
    obtain ⟨a', _, q1, _, _, _, q4, _⟩ := s.s.own j es e1
    rw [e2] at q1; cases q1
    rw [upd_same] at q4; cases q4
  refine ⟨s.w.drop hn, ⟨by simpa using s.s.len, fun j aw e h1 h2 => ?_, fun j es e => ?_, fun j k es es' b hjk e1 e2 e3 => ?_⟩⟩
  · rcases set_get e with ⟨_, z⟩ | ⟨hji, e⟩
    · exact absurd z.symm (h2 ds)
    · obtain ⟨w, q1, q2⟩ := s.s.sh j aw e h1 h2
      exact ⟨w, by rw [List.getElem?_set_ne hji]; exact q1, q2⟩
  · rcases set_get e with ⟨rfl, z⟩ | ⟨hji, e⟩
    · cases z
      have hl : i < σ.length := by rw [← s.s.len]; simpa using lt_of_get e
      exact ⟨a, vs, List.getElem?_set_self hl, s.w.fr a _ upd_same, hz, d1, hn, d2, hd⟩
    · obtain ⟨b, ws, q1, q2⟩ := q.own j es e
      exact ⟨b, ws, by rw [List.getElem?_set_ne hji]; exact q1, q2⟩
  · rcases set_get e1 with ⟨rfl, z⟩ | ⟨hji, e1⟩
    · rw [List.getElem?_set_self (by rw [← s.s.len]; simpa using lt_of_get e1)] at e3
      cases e3
      rcases set_get e2 with ⟨z2, _⟩ | ⟨hki, e2⟩
      · exact absurd z2 hjk
      · rw [List.getElem?_set_ne hki]
        exact fun z3 => hne k es' _ e2 z3 rfl
    · rw [List.getElem?_set_ne hji] at e3
      rcases set_get e2 with ⟨rfl, _⟩ | ⟨hki, e2⟩
      · rw [List.getElem?_set_self (by rw [← s.s.len]; simpa using lt_of_get e2)]
        intro z
        cases z
        exact hne j es _ e1 e3 rfl
      · rw [List.getElem?_set_ne hki]
        exact s.s.ne j k es es' b hjk e1 e2 e3
/-- an owned list in a slot is changed -/
theorem Sim.mut {i : Nat} {ds ds' : List PyData} {a : Addr} {vs' : List V} (s : Sim K Tb B W F ρ σ H) (h : ρ[i]? = some (.own ds)) (ha : σ[i]? = some (some (.ref a))) (hz : vs'.length ≤ sizeLine) (hd : DpAll K W.Φ vs' ds') :
    Sim K Tb B W F (ρ.set i (.own ds')) σ (upd H a (.lst vs')) := by
  obtain ⟨a', vs, q1, q2, _, q3, q4, q5, q6⟩ := s.s.own i ds h
  rw [ha] at q1; cases q1
  have nW : ∀ b o, W.Φ b = some o → b ≠ a := fun b o e => ne_of_none e q3
  have nF : ∀ b o, F b = some o → b ≠ a := fun b o e => ne_of_none e q4
  have nP : ∀ b, W.P b → b ≠ a := fun b e z => q5 (z ▸ e)
  refine ⟨⟨fun b o e => by rw [upd_ne (nW b o e)]; exact s.w.fz b o e, fun b o e => by rw [upd_ne (nF b o e)]; exact s.w.fr b o e, s.w.dj, fun b hb => ?_, fun p hp => ?_, s.w.nt, s.w.sz, s.w.fl⟩, ⟨by simpa using s.s.len, fun j aw e h1 h2 => ?_, fun j es e => ?_, fun j k es es' b hjk e1 e2 e3 => ?_⟩⟩
  · obtain ⟨h1, x, y, h2, h3⟩ := s.w.pt b hb
    exact ⟨h1, x, y, by rw [upd_ne (nP b hb)]; exact h2, h3⟩
  · obtain ⟨ps, h1, h2, h3⟩ := s.w.tb p hp
    refine ⟨ps, by rw [upd_ne (ne_of h1 q2 (by intro z; cases z))]; exact h1, h2, fun pos cv hc => ?_⟩
    obtain ⟨c, e1, e2⟩ := h3 pos cv hc
    exact ⟨c, e1, by rw [upd_ne (ne_of e2 q2 (by intro z; unfold CodeO at z; cases z))]; exact e2⟩
  · rcases set_get e with ⟨_, z⟩ | ⟨hji, e⟩
    · exact absurd z.symm (h2 ds')
    · exact s.s.sh j aw e h1 h2
  · rcases set_get e with ⟨rfl, z⟩ | ⟨hji, e⟩
    · cases z
      exact ⟨a, vs', ha, upd_same, hz, q3, q4, q5, hd⟩
    · obtain ⟨b, ws, r1, r2, r3⟩ := s.s.own j es e
      have hb : b ≠ a := fun z => by
        subst z
        exact s.s.ne i j ds es b hji h e ha r1
      exact ⟨b, ws, r1, by rw [upd_ne hb]; exact r2, r3⟩
  · have f : ∀ {j : Nat} {es : List PyData}, (ρ.set i (AV.own ds'))[j]? = some (AV.own es) → ∃ es0 : List PyData, ρ[j]? = some (AV.own es0) := fun {j es} e => by
      rcases set_get e with ⟨rfl, _⟩ | ⟨_, e⟩
      · exact ⟨_, h⟩
      · exact ⟨_, e⟩
    obtain ⟨x, e1⟩ := f e1
    obtain ⟨y, e2⟩ := f e2
    exact s.s.ne j k x y b hjk e1 e2 e3
/-- an owned list in a slot is given to the world -/
theorem Sim.share {i : Nat} {ds : List PyData} (s : Sim K Tb B W F ρ σ H) (h : ρ[i]? = some (.own ds)) :
    ∃ W' v, Ext W W' ∧ Sim K Tb B W' F (ρ.set i (.sh (.list ds))) σ H ∧ σ[i]? = some (some v) ∧ Dp K W'.Φ v (.list ds) := by
  obtain ⟨a, vs, q1, q2, qz, q3, q4, q5, q6⟩ := s.s.own i ds h
  -- first out of the slot into the frame
  have s1 : Sim K Tb B W (upd F a (.lst vs)) (ρ.set i .no) σ H := by
    refine ⟨⟨s.w.fz, fun b o e => ?_, fun b o e => ?_, s.w.pt, s.w.tb, fun b o e => ?_, s.w.sz, fun b u e => by
    by_cases hb : b = a
    · rw [hb, upd_same] at e; cases e; exact ⟨_, rfl⟩
    · rw [upd_ne hb] at e; exact s.w.fl b u e⟩, ⟨by simpa using s.s.len, fun j aw e h1 h2 => ?_, fun j es e => ?_, fun j k es es' b hjk e1 e2 e3 => ?_⟩⟩
    · by_cases hb : b = a
      · subst hb; rw [upd_same] at e; rw [← e]; exact q2
      · rw [upd_ne hb] at e; exact s.w.fr b o e
    · by_cases hb : b = a
      · subst hb; exact ⟨q3, q5⟩
      · rw [upd_ne hb] at e; exact s.w.dj b o e
    · by_cases hb : b = a
      · subst hb
        rcases e with e | e
        · rw [q3] at e; cases e
        · rw [upd_same] at e; cases e; intro ps z; cases z
      · refine s.w.nt b o (e.imp id fun e => ?_)
        rw [upd_ne hb] at e; exact e
    · rcases set_get e with ⟨_, z⟩ | ⟨_, e⟩
      · exact absurd z.symm h1
      · exact s.s.sh j aw e h1 h2
    · rcases set_get e with ⟨_, z⟩ | ⟨hji, e⟩
      · cases z
      · obtain ⟨b, ws, r1, r2, rz, r3, r4, r5⟩ := s.s.own j es e
        have hb : b ≠ a := fun z => by
          subst z
          exact s.s.ne i j ds es b hji h e q1 r1
        exact ⟨b, ws, r1, r2, rz, r3, by rw [upd_ne hb]; exact r4, r5⟩
    · rcases set_get e1 with ⟨_, z⟩ | ⟨_, e1⟩
      · cases z
      · rcases set_get e2 with ⟨_, z⟩ | ⟨_, e2⟩
        · cases z
        · exact s.s.ne j k es es' b hjk e1 e2 e3
  obtain ⟨W', e, s2, hd⟩ := s1.freeze q4 qz q6
  refine ⟨W', .ref a, e, ?_, q1, hd⟩
  have s3 := s2.set (i := i) (v := .ref a) (av := .sh (.list ds)) hd
  rw [List.set_set] at s3
  have : σ.set i (some (.ref a)) = σ := by
    apply List.ext_getElem?
    intro j
    by_cases hj : i = j
    · subst hj; rw [List.getElem?_set_self (lt_of_get q1), q1]
    · rw [List.getElem?_set_ne hj]
  rwa [this] at s3
/-- slots forgotten -/
theorem Sim.forget (i : Nat) (s : Sim K Tb B W F ρ σ H) : Sim K Tb B W F (ρ.set i .no) σ H := by
  refine ⟨s.w, ⟨by simpa using s.s.len, fun j aw e h1 h2 => ?_, fun j es e => ?_, fun j k es es' b hjk e1 e2 e3 => ?_⟩⟩
  · rcases set_get e with ⟨_, z⟩ | ⟨_, e⟩
    · exact absurd z.symm h1
    · exact s.s.sh j aw e h1 h2
  · rcases set_get e with ⟨_, z⟩ | ⟨_, e⟩
    · cases z
    · exact s.s.own j es e
  · rcases set_get e1 with ⟨_, z⟩ | ⟨_, e1⟩
    · cases z
    · rcases set_get e2 with ⟨_, z⟩ | ⟨_, e2⟩
      · cases z
      · exact s.s.ne j k es es' b hjk e1 e2 e3
end
end Dn
end
section
set_option Elab.async false
set_option linter.all false
set_option autoImplicit false
set_option maxRecDepth 100000
/-! Dn1: readings by denotations, and a rule for each construct. -/
namespace Dn
open PySem PySem.Spec PyProof.Rows L2 LamX

/-! ### out of the slots into the frame, for a call -/
section
variable {K : PySem.W.Frag} {Tb : List (Addr × Str)} {B : Wd → V → (List PyData → T PyData) → Prop} {W W' : Wd} {F F' H H' : Hp} {ρ ρ' : Env} {σ σ' : L2.St}
open Classical in
/-- the frame with what the slots own -/
noncomputable def pack (ρ : Env) (σ : L2.St) (F H : Hp) : Hp := fun a => if ∃ (i : Nat) (ds : List PyData), ρ[i]? = some (AV.own ds) ∧ σ[i]? = some (some (V.ref a)) then H a else F a
theorem pack_own {i : Nat} {ds : List PyData} {a : Addr} (h : ρ[i]? = some (.own ds)) (h2 : σ[i]? = some (some (.ref a))) : pack ρ σ F H a = H a := if_pos ⟨i, ds, h, h2⟩
theorem pack_frame (s : Sim K Tb B W F ρ σ H) {a : Addr} {o : HO} (h : F a = some o) : pack ρ σ F H a = some o := by
  unfold pack
  rw [if_neg, h]
  rintro ⟨i, ds, h1, h2⟩
  obtain ⟨b, vs, q1, _, _, _, q4, _⟩ := s.s.own i ds h1
  rw [h2] at q1; cases q1
  rw [h] at q4; cases q4
theorem pack_cases {a : Addr} {o : HO} (h : pack ρ σ F H a = some o) : (F a = some o) ∨ ∃ (i : Nat) (ds : List PyData), ρ[i]? = some (AV.own ds) ∧ σ[i]? = some (some (V.ref a)) ∧ H a = some o := by
  unfold pack at h
  split at h
  · rename_i q
    obtain ⟨i, ds, h1, h2⟩ := q
    exact .inr ⟨i, ds, h1, h2, h⟩
  · exact .inl h
theorem Sim.packed (s : Sim K Tb B W F ρ σ H) : WOk Tb W (pack ρ σ F H) H := by
  refine ⟨s.w.fz, fun a o e => ?_, fun a o e => ?_, s.w.pt, s.w.tb, fun a o e => ?_, s.w.sz, fun a o e => by
    rcases pack_cases e with e | ⟨i, ds, h1, h2, e⟩
    · exact s.w.fl a o e
    · obtain ⟨b, vs, q1, q2, _⟩ := s.s.own i ds h1
      rw [h2] at q1; cases q1
      rw [e] at q2; cases q2
      exact ⟨vs, rfl⟩⟩
  · rcases pack_cases e with e | ⟨_, _, _, _, e⟩
    · exact s.w.fr a o e
    · exact e
  · rcases pack_cases e with e | ⟨i, ds, h1, h2, e⟩
    · exact s.w.dj a o e
    · obtain ⟨b, vs, q1, _, _, q3, _, q5, _⟩ := s.s.own i ds h1
      rw [h2] at q1; cases q1
      exact ⟨q3, q5⟩
  · rcases e with e | e
    · exact s.w.nt a o (.inl e)
    · rcases pack_cases e with e | ⟨i, ds, h1, h2, e⟩
      · exact s.w.nt a o (.inr e)
      · obtain ⟨b, vs, q1, q2, _⟩ := s.s.own i ds h1
        rw [h2] at q1; cases q1
        rw [e] at q2; cases q2
        intro ps z; cases z
/-- behind the call -/
theorem Sim.unpack {G : Hp} (s : Sim K Tb B W F ρ σ H) (e : Ext W W') (hG : ∀ a o, pack ρ σ F H a = some o → G a = some o) (hF : ∀ a o, F' a = some o → G a = some o) (hF2 : ∀ a, pack ρ σ F H a = none → F' a = G a) (hF3 : ∀ a o, F a = some o → F' a = some o)
    (hF4 : ∀ (i : Nat) (ds : List PyData) (a : Addr), ρ[i]? = some (.own ds) → σ[i]? = some (some (.ref a)) → F' a = none) (w : WOk Tb W' G H') : Sim K Tb B W' F' ρ σ H' := by
  refine ⟨w.frame hF, ⟨s.s.len, fun i av h1 h2 h3 => ?_, fun i ds h => ?_, s.s.ne⟩⟩
  · obtain ⟨v, q1, q2⟩ := s.s.sh i av h1 h2 h3
    exact ⟨v, q1, q2.ext e⟩
  · obtain ⟨a, vs, q1, q2, qz, q3, q4, q5, q6⟩ := s.s.own i ds h
    have g : G a = some (.lst vs) := hG a _ (by rw [pack_own h q1]; exact q2)
    obtain ⟨d1, d2⟩ := w.dj a _ g
    exact ⟨a, vs, q1, w.fr a _ g, qz, d1, hF4 i ds a h q1, d2, dpAll_le e.φ _ _ q6⟩
theorem Sim.back (s : Sim K Tb B W F ρ σ H) (e : Ext W W') (w : WOk Tb W' (pack ρ σ F H) H') : Sim K Tb B W' F ρ σ H' := by
  refine s.unpack e (fun _ _ h => h) (fun a o h => pack_frame s h) (fun a h => ?_) (fun _ _ h => h) (fun i ds a h1 h2 => ?_) w
  · cases q : F a with
    | none => rw [h]
    | some o => rw [pack_frame s q] at h; cases h
  · obtain ⟨b, vs, q1, _, _, _, q4, _⟩ := s.s.own i ds h1
    rw [h2] at q1; cases q1
    exact q4
theorem Sim.backOwn {a : Addr} {o : HO} (s : Sim K Tb B W F ρ σ H) (e : Ext W W') (hn : pack ρ σ F H a = none) (w : WOk Tb W' (upd (pack ρ σ F H) a o) H') : F a = none ∧ Sim K Tb B W' (upd F a o) ρ σ H' := by
  have hFa : F a = none := by
    cases q : F a with
    | none => rfl
    | some u => rw [pack_frame s q] at hn; cases hn
  refine ⟨hFa, s.unpack e (upd_le hn) (fun b u h => ?_) (fun b h => ?_) (upd_le hFa) (fun i ds b h1 h2 => ?_) w⟩
  · by_cases hb : b = a
    · subst hb; rw [upd_same] at h ⊢; exact h
    · rw [upd_ne hb] at h ⊢; exact pack_frame s h
  · by_cases hb : b = a
    · subst hb; rw [upd_same, upd_same]
    · rw [upd_ne hb, upd_ne hb, h]
      cases q : F b with
      | none => rfl
      | some u => rw [pack_frame s q] at h; cases h
  · obtain ⟨c, vs, q1, q2, _, _, q4, _⟩ := s.s.own i ds h1
    rw [h2] at q1; cases q1
    have hb : b ≠ a := fun z => by
      subst z
      rw [pack_own h1 h2, q2] at hn; cases hn
    rw [upd_ne hb]; exact q4
end

/-! ### readings -/
section
variable (K : PySem.W.Frag) (Tb : List (Addr × Str)) (B : Wd → V → (List PyData → T PyData) → Prop)
/-- what is wanted of a value behind an expression -/
def RPost (W : Wd) (F : Hp) (ρ : Env) (σ : L2.St) (Q : VK) : AV → Prop
  | .own ds => ∀ W' H' a vs, Ext W W' → F a = none → Sim K Tb B W' (upd F a (.lst vs)) ρ σ H' → vs.length ≤ sizeLine → DpAll K W'.Φ vs ds → Q (.ref a) H'
  | av => ∀ W' H' v, Ext W W' → Sim K Tb B W' F ρ σ H' → VOk K B W' v av → Q v H'
def rd (den : Env → T AV) : TE := fun σ H Q => ∃ W F ρ, Sim K Tb B W F ρ σ H ∧ Hold (den ρ) (RPost K Tb B W F ρ σ Q)
/-- .. of what can be read while the slots stay -/
def rb (den : Env → T PyData) : TE := fun σ H Q => ∃ W F ρ, Sim K Tb B W F ρ σ H ∧
  Hold (den ρ) fun d => ∀ W' H' v, Ext W W' → Sim K Tb B W' F ρ σ H' → (∀ W2 F2 H2, Ext W' W2 → Sim K Tb B W2 F2 ρ σ H2 → Rb K W2 H2 v d) → Q v H'
def rt (den : Env → T Bool) : TT := fun σ H Q => ∃ W F ρ, Sim K Tb B W F ρ σ H ∧ Hold (den ρ) fun b => ∀ W' H', Ext W W' → Sim K Tb B W' F ρ σ H' → Q b H'
/-- values one by one -/
inductive VAll (W : Wd) : List V → List AV → Prop
  | nil : VAll W [] []
  | cons {v : V} {vs : List V} {a : AV} {as : List AV} : VOk K B W v a → VAll W vs as → VAll W (v :: vs) (a :: as)
def ra (den : Env → T (List AV)) : TA := fun σ H Q => ∃ W F ρ, Sim K Tb B W F ρ σ H ∧ Hold (den ρ) fun as => ∀ W' H' vs, Ext W W' → Sim K Tb B W' F ρ σ H' → VAll K B W' vs as → Q vs H'
/-- arguments that are only read -/
inductive RbAll (W : Wd) (H : Hp) : List V → List PyData → Prop
  | nil : RbAll W H [] []
  | cons {v : V} {vs : List V} {d : PyData} {ds : List PyData} : Rb K W H v d → RbAll W H vs ds → RbAll W H (v :: vs) (d :: ds)
def rba (den : Env → T (List PyData)) : TA := fun σ H Q => ∃ W F ρ, Sim K Tb B W F ρ σ H ∧ Hold (den ρ) fun ds => ∀ W' H' vs, Ext W W' → Sim K Tb B W' F ρ σ H' → (∀ W2 F2 H2, Ext W' W2 → Sim K Tb B W2 F2 ρ σ H2 → RbAll K W2 H2 vs ds) → Q vs H'
/-- how a statement ends -/
inductive Out where
  | nx (ρ : Env)
  | rt (av : AV)
  | bk (ρ : Env)
  | ct (ρ : Env)
def OPost (W : Wd) (F : Hp) (D : Ends) : Out → Prop
  | .nx ρ => ∀ W' σ' H', Ext W W' → Sim K Tb B W' F ρ σ' H' → D.nx σ' H'
  | .bk ρ => ∀ W' σ' H', Ext W W' → Sim K Tb B W' F ρ σ' H' → D.bk σ' H'
  | .ct ρ => ∀ W' σ' H', Ext W W' → Sim K Tb B W' F ρ σ' H' → D.ct σ' H'
  | .rt (.own ds) => ∀ W' H' a vs, Ext W W' → F a = none → WOk Tb W' (upd F a (.lst vs)) H' → vs.length ≤ sizeLine → DpAll K W'.Φ vs ds → D.rt (.ref a) H'
  | .rt av => ∀ W' H' v, Ext W W' → WOk Tb W' F H' → VOk K B W' v av → D.rt v H'
def rs (den : Env → T Out) : TS := fun D σ H => ∃ W F ρ, Sim K Tb B W F ρ σ H ∧ Hold (den ρ) (OPost K Tb B W F D)
/-- the promise of a def: with n arguments it does f -/
def spD (n : Nat) (f : List AV → T AV) : Sp := fun vs H Q _ => ∃ W F as, WOk Tb W F H ∧ VAll K B W vs as ∧ as.length = n ∧ Hold (f as) fun
  | .own ds => ∀ W' H' a xs, Ext W W' → F a = none → WOk Tb W' (upd F a (.lst xs)) H' → xs.length ≤ sizeLine → DpAll K W'.Φ xs ds → Q (.ref a) H'
  | av => ∀ W' H' v, Ext W W' → WOk Tb W' F H' → VOk K B W' v av → Q v H'
end
/-! ### judgements with fixed surroundings -/
section
variable (Tb : List (Addr × Str)) (B : Wd → V → (List PyData → T PyData) → Prop) (X : Cx)
abbrev PD (e : Expr) (den : Env → T AV) : Prop := PE X e (rd X.K Tb B den)
abbrev PB (e : Expr) (den : Env → T PyData) : Prop := PE X e (rb X.K Tb B den)
abbrev PTD (e : Expr) (den : Env → T Bool) : Prop := PT X e (rt X.K Tb B den)
abbrev PAD (es : List Expr) (den : Env → T (List AV)) : Prop := PA X es (ra X.K Tb B den)
abbrev PAB (es : List Expr) (den : Env → T (List PyData)) : Prop := PA X es (rba X.K Tb B den)
abbrev PSD (st : Stmt) (den : Env → T Out) : Prop := PS X st (rs X.K Tb B den)
abbrev PSsD (st : List Stmt) (den : Env → T Out) : Prop := PSs X st (rs X.K Tb B den)
end
theorem PE.weaken {X : Cx} {e : Expr} {t t' : TE} (h : PE X e t) (f : ∀ σ H Q, t' σ H Q → t σ H Q) : PE X e t' := ⟨fun pins s σ H Q I q => h.run pins s σ H Q I (f σ H Q q)⟩
theorem PT.weaken {X : Cx} {e : Expr} {t t' : TT} (h : PT X e t) (f : ∀ σ H Q, t' σ H Q → t σ H Q) : PT X e t' := ⟨fun pins s σ H Q I q => h.run pins s σ H Q I (f σ H Q q)⟩
theorem PA.weaken {X : Cx} {e : List Expr} {t t' : TA} (h : PA X e t) (f : ∀ σ H Q, t' σ H Q → t σ H Q) : PA X e t' := ⟨fun pos pins s σ H Q I q => h.run pos pins s σ H Q I (f σ H Q q)⟩
theorem PS.weaken {X : Cx} {e : Stmt} {t t' : TS} (h : PS X e t) (f : ∀ D σ H, t' D σ H → t D σ H) : PS X e t' := ⟨fun pins s σ H D I q => h.run pins s σ H D I (f D σ H q)⟩
theorem PSs.weaken {X : Cx} {e : List Stmt} {t t' : TS} (h : PSs X e t) (f : ∀ D σ H, t' D σ H → t D σ H) : PSs X e t' := ⟨fun pins s σ H D I q => h.run pins s σ H D I (f D σ H q)⟩

section
variable {K : PySem.W.Frag} {Tb : List (Addr × Str)} {B : Wd → V → (List PyData → T PyData) → Prop} {W W' : Wd} {F F' H H' : Hp} {ρ ρ' : Env} {σ σ' : L2.St} {Q : VK}
theorem RPost.ext {av : AV} (e : Ext W W') (h : RPost K Tb B W F ρ σ Q av) : RPost K Tb B W' F ρ σ Q av := by
  cases av with
  | own ds => exact fun W2 H2 a vs e2 => h W2 H2 a vs (e.trans e2)
  | _ => exact fun W2 H2 v e2 => h W2 H2 v (e.trans e2)
theorem OPost.ext {o : Out} {D : Ends} (e : Ext W W') (h : OPost K Tb B W F D o) : OPost K Tb B W' F D o := by
  cases o with
  | rt av => cases av with
    | own ds => exact fun W2 H2 a vs e2 => h W2 H2 a vs (e.trans e2)
    | _ => exact fun W2 H2 v e2 => h W2 H2 v (e.trans e2)
  | _ => exact fun W2 s2 H2 e2 => h W2 s2 H2 (e.trans e2)
/-- an owned result is given to the world -/
def frz : AV → AV
  | .own ds => .sh (.list ds)
  | av => av
theorem RPost.frz {av : AV} (h : RPost K Tb B W F ρ σ Q (frz av)) : RPost K Tb B W F ρ σ Q av := by
  cases av with
  | own ds =>
    intro W1 H1 a vs e hn s hz hd
    obtain ⟨W2, e2, s2, d2⟩ := s.freeze hn hz hd
    exact h W2 H1 (.ref a) (e.trans e2) s2 d2
  | _ => exact h
/-- to data that is only read -/
def toD : AV → T PyData
  | .sh d => .ret d
  | .own ds => .ret (.list ds)
  | _ => .err
theorem Rb.get {i : Nat} {ds : List PyData} {v : V} (s : Sim K Tb B W F ρ σ H) (h : ρ[i]? = some (.own ds)) (hv : σ[i]? = some (some v)) : Rb K W H v (.list ds) := by
  obtain ⟨a, vs, q1, q2, qz, _, _, _, q6⟩ := s.s.own i ds h
  rw [hv] at q1; cases q1
  exact ⟨a, vs, rfl, .inl (.inl q2), qz, q6⟩
end

section
variable {Tb : List (Addr × Str)} {B : Wd → V → (List PyData → T PyData) → Prop} {X : Cx}
/-! ### names, constants -/
def slotD (ρ : Env) (i : Nat) : T PyData := match ρ[i]? with
  | some (.sh d) => .ret d
  | some (.own ds) => .ret (.list ds)
  | _ => .err
theorem pb_var {i : Nat} {e : Expr} (h : PE X e (tVar i)) : PB Tb B X e fun ρ => slotD ρ i := by
  refine PE.weaken h fun σ H Q ⟨W, F, ρ, s, q⟩ => ?_
  unfold slotD at q
  dsimp only at q
  cases e1 : ρ[i]? with
  | none => rw [e1] at q; exact q.elim
  | some av =>
    rw [e1] at q
    cases av with
    | sh d =>
      obtain ⟨v, h1, h2⟩ := s.get e1 (by intro z; cases z) (by intro ds z; cases z)
      exact ⟨v, h1, q W H v (Ext.refl W) s fun W2 F2 H2 e2 s2 => Rb.of s2.w (dp_le e2.φ _ _ h2)⟩
    | own ds =>
      obtain ⟨a, vs, q1, _⟩ := s.s.own i ds e1
      exact ⟨.ref a, q1, q W H _ (Ext.refl W) s fun W2 F2 H2 e2 s2 => Rb.get s2 e1 q1⟩
    | no => exact q.elim
    | pot => exact q.elim
    | fn g => exact q.elim
/-- a name whose list goes elsewhere is not owned any more: the slots that are given up ahead -/
def share1 (ρ : Env) (i : Nat) : Env := match ρ[i]? with
  | some (AV.own ds) => ρ.set i (AV.sh (PyData.list ds))
  | _ => ρ
def share (is : List Nat) (ρ : Env) : Env := is.foldl share1 ρ
def slotA (ρ : Env) (i : Nat) : T AV := match ρ[i]? with
  | some .no => .err
  | some (.own _) => .err
  | some av => .ret av
  | none => .err
theorem pd_var {i : Nat} {e : Expr} (h : PE X e (tVar i)) : PD Tb B X e fun ρ => slotA ρ i := by
  refine PE.weaken h fun σ H Q ⟨W, F, ρ, s, q⟩ => ?_
  unfold slotA at q
  dsimp only at q
  cases e1 : ρ[i]? with
  | none => rw [e1] at q; exact q.elim
  | some av =>
    rw [e1] at q
    cases av with
    | no => exact q.elim
    | own ds => exact q.elim
    | _ =>
      obtain ⟨v, h1, h2⟩ := s.get e1 (by intro z; cases z) (by intro ds z; cases z)
      exact ⟨v, h1, q W H v (Ext.refl W) s h2⟩
theorem pd_con {e : Expr} {v : V} {d : PyData} (h : PE X e (tC v)) (hd : ∀ H : Hp, Dp X.K H v d) : PD Tb B X e fun _ => T.ret (AV.sh d) :=
  PE.weaken h fun σ H Q ⟨W, F, ρ, s, q⟩ => q W H v (Ext.refl W) s (hd _)
theorem pd_int {i : Int} {j : Nat} {pos : Pos} : PD Tb B X (.Constant (.int i) j pos) fun _ => T.ret (AV.sh (.int i)) := pd_con pe_int fun _ => .int i
theorem pd_bl {b : Bool} {j : Nat} {pos : Pos} : PD Tb B X (.Constant (.bool b) j pos) fun _ => T.ret (AV.sh (.bool b)) := pd_con pe_bl fun _ => .bl b
theorem pd_non {j : Nat} {pos : Pos} : PD Tb B X (.Constant .none j pos) fun _ => T.ret (AV.sh .none) := pd_con pe_non fun _ => .non
theorem pd_str {x : Str} {j : Nat} {pos : Pos} : PD Tb B X (.Constant (.str x) j pos) fun _ => T.ret (AV.sh (.str x)) := pd_con pe_str fun _ => .str x
/-- what is known of a value may be read -/
theorem pb_of {e : Expr} {f : Env → T AV} (h : PD Tb B X e f) : PB Tb B X e fun ρ => (f ρ).bind toD := by
  refine PE.weaken h fun σ H Q ⟨W, F, ρ, s, q⟩ => ⟨W, F, ρ, s, (Hold.bind q).mono fun av z => ?_⟩
  cases av with
  | sh d => exact fun W' H' v e s' hv => z W' H' v e s' fun W2 F2 H2 e2 s2 => Rb.of s2.w (dp_le e2.φ _ _ hv)
  | own ds =>
    refine RPost.frz ?_
    exact fun W' H' v e s' hv => z W' H' v e s' fun W2 F2 H2 e2 s2 => Rb.of s2.w (dp_le e2.φ _ _ hv)
  | no => exact z.elim
  | pot => exact z.elim
  | fn g => exact z.elim
/-- the value is given to the world -/
theorem pd_frz {e : Expr} {f : Env → T AV} (h : PD Tb B X e f) : PD Tb B X e fun ρ => (f ρ).bind fun av => T.ret (frz av) :=
  PE.weaken h fun σ H Q ⟨W, F, ρ, s, q⟩ => ⟨W, F, ρ, s, (Hold.bind q).mono fun av z => RPost.frz z⟩

/-! ### operators of two values that are read -/
/-- r is what op asks of data: it hands back what f tells -/
def OpOk (Tb : List (Addr × Str)) (B : Wd → V → (List PyData → T PyData) → Prop) (K : PySem.W.Frag) (r : R2) (f : PyData → PyData → T AV) : Prop :=
  ∀ W F ρ σ H x y d e Q, Sim K Tb B W F ρ σ H → Rb K W H x d → Rb K W H y e → Hold (f d e) (RPost K Tb B W F ρ σ Q) → r x y H Q
theorem OpR.or {f : Value → Value → Sem Value} {r r' : R2} (h : OpR X f r) (h' : OpR X f r') : OpR X f fun x y H Q => r x y H Q ∨ r' x y H Q :=
  fun pins s σ H x y v u Q I a b z => z.elim (h pins s σ H x y v u Q I a b) (h' pins s σ H x y v u Q I a b)
theorem OpOk.run {r : R2} {f : PyData → PyData → T AV} {a b : Expr} {fa fb : Env → T PyData} (ok : OpOk Tb B X.K r f) {σ : L2.St} {H : Hp} {Q : VK}
    (h : rd X.K Tb B (fun ρ => (fa ρ).bind fun x => (fb ρ).bind fun y => f x y) σ H Q) : tOp r (rb X.K Tb B fa) (rb X.K Tb B fb) σ H Q := by
  obtain ⟨W, F, ρ, s, q⟩ := h
  refine ⟨W, F, ρ, s, (Hold.bind q).mono fun d z => fun W1 H1 v e1 s1 r1 => ?_⟩
  refine ⟨W1, F, ρ, s1, (Hold.bind z).mono fun d2 z2 => fun W2 H2 v2 e2 s2 r2 => ?_⟩
  exact ok W2 F ρ σ H2 v v2 d d2 Q s2 (r1 W2 F H2 e2 s2) (r2 W2 F H2 (Ext.refl _) s2) (z2.mono fun av => RPost.ext (e1.trans e2))
theorem pd_op {op : Operator} {r : R2} {f : PyData → PyData → T AV} {a b : Expr} {fa fb : Env → T PyData} {pos : Pos} (hr : OpR X (binaryOp op) r) (ok : OpOk Tb B X.K r f) (ha : PB Tb B X a fa) (hb : PB Tb B X b fb) :
    PD Tb B X (.BinOp a op b pos) fun ρ => (fa ρ).bind fun x => (fb ρ).bind fun y => f x y := PE.weaken (pe_op hr ha hb) fun _ _ _ h => ok.run (a := a) (b := b) h
theorem pd_cmp {op : CmpOp} {r : R2} {f : PyData → PyData → T AV} {a b : Expr} {fa fb : Env → T PyData} {pos : Pos} (hr : OpR X (compareOp op) r) (ok : OpOk Tb B X.K r f) (ha : PB Tb B X a fa) (hb : PB Tb B X b fb) (hm : behindInMarks op b = false) :
    PD Tb B X (.Compare a [op] [b] pos) fun ρ => (fa ρ).bind fun x => (fb ρ).bind fun y => f x y := PE.weaken (pe_cmpR hr ha hb hm) fun _ _ _ h => ok.run (a := a) (b := b) h
/-! ### tests -/
def toB : AV → T Bool
  | .sh (.bool b) => .ret b
  | _ => .err
theorem RPost.bl {K : PySem.W.Frag} {W : Wd} {F : Hp} {ρ : Env} {σ : L2.St} {Qb : Bool → Hp → Prop} {av : AV} (h : Hold (toB av) fun b => ∀ W' H', Ext W W' → Sim K Tb B W' F ρ σ H' → Qb b H') : RPost K Tb B W F ρ σ (fun x H' => ∃ k, x = V.bl k ∧ Qb k H') av := by
  cases av with
  | sh d => cases d with
    | bool b =>
      intro W' H' v e s hv
      cases hv
      exact ⟨b, rfl, h W' H' e s⟩
    | _ => exact h.elim
  | _ => exact h.elim
theorem pt_d {e : Expr} {f : Env → T AV} (h : ∀ t, PE X e t → PT X e (tTest t)) (hd : PD Tb B X e f) : PTD Tb B X e fun ρ => (f ρ).bind toB :=
  PT.weaken (h _ hd) fun σ H Q ⟨W, F, ρ, s, q⟩ => ⟨W, F, ρ, s, (Hold.bind q).mono fun av z => RPost.bl z⟩
/-- an expression's value as a test -/
theorem ptd_val {e : Expr} {f : Env → T AV} (hd : PD Tb B X e f) (he : ∀ whole, isTrue e X.env whole = (do let v ← whole; standAt e.pos; holding [v] (truthy v)) := by intro _; rfl) : PTD Tb B X e fun ρ => (f ρ).bind toB :=
  pt_d (fun t h => pt_val h he) hd
theorem ptd_cmp {op : CmpOp} {r : R2} {f : PyData → PyData → T AV} {a b : Expr} {fa fb : Env → T PyData} {pos : Pos} (hr : OpR X (compareOp op) r) (ok : OpOk Tb B X.K r f) (ha : PB Tb B X a fa) (hb : PB Tb B X b fb) (hm : behindInMarks op b = false) :
    PTD Tb B X (.Compare a [op] [b] pos) fun ρ => ((fa ρ).bind fun x => (fb ρ).bind fun y => f x y).bind toB := by
  refine PT.weaken (pt_cmpR hr ha hb hm) fun σ H Q ⟨W, F, ρ, s, q⟩ => ?_
  exact ok.run (a := a) (b := b) ⟨W, F, ρ, s, (Hold.bind q).mono fun av z => RPost.bl z⟩
theorem ptd_not {a : Expr} {f : Env → T Bool} {pos : Pos} (ha : PTD Tb B X a f) : PTD Tb B X (.UnaryOp .Not a pos) fun ρ => (f ρ).bind fun b => .ret (!b) :=
  PT.weaken (pt_not ha) fun σ H Q ⟨W, F, ρ, s, q⟩ => ⟨W, F, ρ, s, (Hold.bind q).mono fun b z => z⟩
theorem pd_not {a : Expr} {f : Env → T AV} {pos : Pos} (ha : PD Tb B X a f) : PD Tb B X (.UnaryOp .Not a pos) fun ρ => ((f ρ).bind toB).bind fun b => .ret (.sh (.bool (!b))) := by
  refine PE.weaken (pe_not ha) fun σ H Q ⟨W, F, ρ, s, q⟩ => ⟨W, F, ρ, s, (Hold.bind (Hold.bind q)).mono fun av z => RPost.bl (z.mono fun b z => ?_)⟩
  exact fun W' H' e s' => z W' H' _ e s' (.bl _)
/-- and, or in a test: a chain -/
abbrev PWD (Tb : List (Addr × Str)) (B : Wd → V → (List PyData → T PyData) → Prop) (X : Cx) (e : Expr) (den : Env → T Bool) : Prop := PW X e (rt X.K Tb B den)
theorem PW.weaken {e : Expr} {t t' : TT} (h : PW X e t) (f : ∀ σ H Q, t' σ H Q → t σ H Q) : PW X e t' := ⟨fun wh pins s σ H Q I q => h.run wh pins s σ H Q I (f σ H Q q)⟩
theorem pwd_and1 {a : Expr} {f : Env → T Bool} {pos : Pos} (ha : PTD Tb B X a f) : PWD Tb B X (.BoolOp .And [a] pos) f := pw_and1 ha
theorem pwd_or1 {a : Expr} {f : Env → T Bool} {pos : Pos} (ha : PTD Tb B X a f) : PWD Tb B X (.BoolOp .Or [a] pos) f := pw_or1 ha
theorem ite_c {c : Bool} {α : Type} {a b : T α} {p : α → Prop} {A B : Prop} (h : Hold (if c = true then a else b) p) (f : Hold a p → A) (g : Hold b p → B) : if c = true then A else B := by
  cases c with
  | true => exact f h
  | false => exact g h
theorem pwd_and {a b : Expr} {rest : List Expr} {f g : Env → T Bool} {pos : Pos} (ha : PTD Tb B X a f) (hb : PWD Tb B X (.BoolOp .And (b :: rest) pos) g) :
    PWD Tb B X (.BoolOp .And (a :: b :: rest) pos) fun ρ => (f ρ).bind fun x => if x = true then g ρ else .ret false := by
  refine PW.weaken (pw_and ha hb) fun σ H Q ⟨W, F, ρ, s, q⟩ => ⟨W, F, ρ, s, (Hold.bind q).mono fun c z => fun W1 H1 e1 s1 => ite_c z (fun z => ?_) fun z => ?_⟩
  · exact ⟨W1, F, ρ, s1, z.mono fun b z W2 H2 e2 s2 => z W2 H2 (e1.trans e2) s2⟩
  · exact z W1 H1 e1 s1
theorem pwd_or {a b : Expr} {rest : List Expr} {f g : Env → T Bool} {pos : Pos} (ha : PTD Tb B X a f) (hb : PWD Tb B X (.BoolOp .Or (b :: rest) pos) g) :
    PWD Tb B X (.BoolOp .Or (a :: b :: rest) pos) fun ρ => (f ρ).bind fun x => if x = true then .ret true else g ρ := by
  refine PW.weaken (pw_or ha hb) fun σ H Q ⟨W, F, ρ, s, q⟩ => ⟨W, F, ρ, s, (Hold.bind q).mono fun c z => fun W1 H1 e1 s1 => ite_c z (fun z => ?_) fun z => ?_⟩
  · exact z W1 H1 e1 s1
  · exact ⟨W1, F, ρ, s1, z.mono fun b z W2 H2 e2 s2 => z W2 H2 (e1.trans e2) s2⟩
/-- and, or as values: all but the last one True or False -/
theorem pd_one {op : BoolOp} {a : Expr} {f : Env → T AV} {pos : Pos} (ha : PD Tb B X a f) : PD Tb B X (.BoolOp op [a] pos) f := pe_one ha
theorem pd_and {a b : Expr} {rest : List Expr} {f g : Env → T AV} {pos : Pos} (ha : PD Tb B X a f) (hb : PD Tb B X (.BoolOp .And (b :: rest) pos) g) :
    PD Tb B X (.BoolOp .And (a :: b :: rest) pos) fun ρ => ((f ρ).bind toB).bind fun x => if x = true then g ρ else .ret (.sh (.bool false)) := by
  refine PE.weaken (pe_and ha hb) fun σ H Q ⟨W, F, ρ, s, q⟩ => ⟨W, F, ρ, s, (Hold.bind (Hold.bind q)).mono fun av z => RPost.bl (z.mono fun c z => fun W1 H1 e1 s1 => ite_c z (fun z => ?_) fun z => ?_)⟩
  · exact ⟨W1, F, ρ, s1, z.mono fun av => RPost.ext e1⟩
  · exact z W1 H1 _ e1 s1 (.bl false)
theorem pd_or {a b : Expr} {rest : List Expr} {f g : Env → T AV} {pos : Pos} (ha : PD Tb B X a f) (hb : PD Tb B X (.BoolOp .Or (b :: rest) pos) g) :
    PD Tb B X (.BoolOp .Or (a :: b :: rest) pos) fun ρ => ((f ρ).bind toB).bind fun x => if x = true then .ret (.sh (.bool true)) else g ρ := by
  refine PE.weaken (pe_or ha hb) fun σ H Q ⟨W, F, ρ, s, q⟩ => ⟨W, F, ρ, s, (Hold.bind (Hold.bind q)).mono fun av z => RPost.bl (z.mono fun c z => fun W1 H1 e1 s1 => ite_c z (fun z => ?_) fun z => ?_)⟩
  · exact z W1 H1 _ e1 s1 (.bl true)
  · exact ⟨W1, F, ρ, s1, z.mono fun av => RPost.ext e1⟩
theorem pd_if {c a b : Expr} {fc : Env → T Bool} {f g : Env → T AV} {pos : Pos} (hc : PTD Tb B X c fc) (ha : PD Tb B X a f) (hb : PD Tb B X b g) : PD Tb B X (.IfExp c a b pos) fun ρ => (fc ρ).bind fun x => if x = true then f ρ else g ρ := by
  refine PE.weaken (pe_ifExp hc ha hb) fun σ H Q ⟨W, F, ρ, s, q⟩ => ⟨W, F, ρ, s, (Hold.bind q).mono fun c z => fun W1 H1 e1 s1 => ite_c z (fun z => ?_) fun z => ?_⟩
  · exact ⟨W1, F, ρ, s1, z.mono fun av => RPost.ext e1⟩
  · exact ⟨W1, F, ρ, s1, z.mono fun av => RPost.ext e1⟩
/-- a < b < c -/
theorem ptd_chain {op op' : CmpOp} {r r' : R2} {f f' : PyData → PyData → T AV} {a b c : Expr} {fa fb fc : Env → T PyData} {pos : Pos} (hr : OpR X (compareOp op) r) (hr' : OpR X (compareOp op') r') (ok : OpOk Tb B X.K r f) (ok' : OpOk Tb B X.K r' f')
    (ha : PB Tb B X a fa) (hb : PB Tb B X b fb) (hc : PB Tb B X c fc) (hl : lastMarks [op, op'] [b, c] = false := by rfl) :
    PD Tb B X (.Compare a [op, op'] [b, c] pos) fun ρ => (fa ρ).bind fun x => (fb ρ).bind fun y => ((f x y).bind toB).bind fun k => if k = true then (fc ρ).bind fun z => f' y z else .ret (.sh (.bool false)) := by
  refine PE.weaken (pe_chain hr hr' ha hb hc hl) fun σ H Q ⟨W, F, ρ, s, q⟩ => ?_
  refine ⟨W, F, ρ, s, (Hold.bind q).mono fun d z => fun W1 H1 v e1 s1 r1 => ?_⟩
  refine ⟨W1, F, ρ, s1, (Hold.bind z).mono fun d2 z2 => fun W2 H2 v2 e2 s2 r2 => ?_⟩
  refine ok W2 F ρ σ H2 v v2 d d2 _ s2 (r1 W2 F H2 e2 s2) (r2 W2 F H2 (Ext.refl _) s2) ((Hold.bind (Hold.bind z2)).mono fun av z => RPost.bl (z.mono fun k z => fun W3 H3 e3 s3 => ite_c z (fun z => ?_) fun z => ?_))
  · refine ⟨W3, F, ρ, s3, (Hold.bind z).mono fun d3 z3 => fun W4 H4 v4 e4 s4 r4 => ?_⟩
    exact ok' W4 F ρ σ H4 v2 v4 d2 d3 Q s4 (r2 W4 F H4 (e3.trans e4) s4) (r4 W4 F H4 (Ext.refl _) s4) (z3.mono fun av => RPost.ext ((e1.trans e2).trans (e3.trans e4)))
  · exact z W3 H3 _ ((e1.trans e2).trans e3) s3 (.bl false)
end
end Dn
end
section
set_option Elab.async false
set_option linter.all false
set_option autoImplicit false
set_option maxRecDepth 100000
/-! Dn2: displays, calls, subscripts, what is walked, comprehensions. -/
namespace Dn
open PySem PySem.Spec PyProof.Rows L2 LamX

section
variable {K : PySem.W.Frag} {Tb : List (Addr × Str)} {B : Wd → V → (List PyData → T PyData) → Prop} {W W' : Wd} {F F' H H' : Hp} {ρ ρ' : Env} {σ σ' : L2.St} {Q : VK}
/-- v holds av, an owned list in the frame -/
def Got (K : PySem.W.Frag) (B : Wd → V → (List PyData → T PyData) → Prop) (W : Wd) (F : Hp) (v : V) (F' : Hp) : AV → Prop
  | .own ds => ∃ a vs, v = .ref a ∧ F a = none ∧ F' = upd F a (.lst vs) ∧ vs.length ≤ sizeLine ∧ DpAll K W.Φ vs ds
  | av => F' = F ∧ VOk K B W v av
theorem rpost_of {av : AV} (h : ∀ W' H' v F', Ext W W' → Got K B W' F v F' av → Sim K Tb B W' F' ρ σ H' → Q v H') : RPost K Tb B W F ρ σ Q av := by
  cases av with
  | own ds => exact fun W' H' a vs e hn s hz hd => h W' H' _ _ e ⟨a, vs, rfl, hn, rfl, hz, hd⟩ s
  | _ => exact fun W' H' v e s hv => h W' H' v F e ⟨rfl, hv⟩ s
theorem RPost.use {av : AV} (h : RPost K Tb B W F ρ σ Q av) {v : V} (e : Ext W W') (g : Got K B W' F v F' av) (s : Sim K Tb B W' F' ρ σ H') : Q v H' := by
  cases av with
  | own ds =>
    obtain ⟨a, vs, rfl, hn, rfl, hz, hd⟩ := g
    exact h W' H' a vs e hn s hz hd
  | _ =>
    obtain ⟨rfl, hv⟩ := g
    exact h W' H' v e s hv
theorem Got.ext {v : V} {av : AV} (e : Ext W W') (g : Got K B W F v F' av) : Got K B W' F v F' av := by
  cases av with
  | own ds =>
    obtain ⟨a, vs, h1, hn, h2, hz, hd⟩ := g
    exact ⟨a, vs, h1, hn, h2, hz, dpAll_le e.φ _ _ hd⟩
  | _ => exact ⟨g.1, VOk.ext (av := _) e g.2⟩
theorem Got.le {v : V} {av : AV} (g : Got K B W F v F' av) : ∀ a o, F a = some o → F' a = some o := by
  cases av with
  | own ds =>
    obtain ⟨a, vs, h1, hn, rfl, _⟩ := g
    exact upd_le hn
  | _ => exact fun a o h => by rw [g.1]; exact h
theorem Sim.put {v : V} {av : AV} {i : Nat} (g : Got K B W F v F' av) (s : Sim K Tb B W F' ρ σ H) (hno : av ≠ .no) : Sim K Tb B W F (ρ.set i av) (σ.set i (some v)) H := by
  cases av with
  | own ds =>
    obtain ⟨a, vs, rfl, hn, rfl, hz, hd⟩ := g
    exact s.setOwn hn hz hd
  | no => exact absurd rfl hno
  | _ =>
    obtain ⟨rfl, hv⟩ := g
    exact s.set hv
end
/-- data behind: frozen -/
def toS : AV → T PyData
  | .sh d => .ret d
  | .own ds => .ret (.list ds)
  | _ => .err
section
variable {K : PySem.W.Frag} {Tb : List (Addr × Str)} {B : Wd → V → (List PyData → T PyData) → Prop} {W W' : Wd} {F F' H H' : Hp} {ρ ρ' : Env} {σ σ' : L2.St} {Q : VK}
/-- what is wanted of frozen data -/
theorem RPost.shd {av : AV} (h : Hold (toS av) fun d => ∀ W' H' v, Ext W W' → Sim K Tb B W' F ρ σ H' → Dp K W'.Φ v d → Q v H') : RPost K Tb B W F ρ σ Q av := by
  cases av with
  | sh d => exact h
  | own ds => exact RPost.frz h
  | _ => exact h.elim
end

section
variable {Tb : List (Addr × Str)} {B : Wd → V → (List PyData → T PyData) → Prop} {X : Cx}
/-! ### arguments -/
theorem pad_nil : PAD Tb B X [] fun _ => .ret [] := PA.weaken pa_nil fun σ H Q ⟨W, F, ρ, s, q⟩ => q W H [] (Ext.refl W) s .nil
theorem VAll.ext {K : PySem.W.Frag} {W W' : Wd} (e : Ext W W') {vs : List V} {as : List AV} (h : VAll K B W vs as) : VAll K B W' vs as := by
  induction h with
  | nil => exact .nil
  | cons h1 _ ih => exact .cons (h1.ext e) ih
theorem pad_cons {e : Expr} {es : List Expr} {f : Env → T AV} {g : Env → T (List AV)} (he : PD Tb B X e f) (hes : PAD Tb B X es g)
    (hst : starEach (e :: es) X.env = (false, eval e X.env) :: starEach es X.env := by rfl) : PAD Tb B X (e :: es) fun ρ => (f ρ).bind fun a => (g ρ).bind fun as => .ret (frz a :: as) := by
  refine PA.weaken (pa_cons he hes hst) fun σ H Q ⟨W, F, ρ, s, q⟩ => ⟨W, F, ρ, s, (Hold.bind q).mono fun av z => RPost.frz ?_⟩
  have key : ∀ aw : AV, aw = frz av → RPost X.K Tb B W F ρ σ (fun x H1 => ra X.K Tb B g σ H1 fun xs H2 => Q (x :: xs) H2) aw := by
    intro aw haw
    have nown : ∀ ds, aw ≠ .own ds := fun ds e => by cases av <;> simp [frz] at haw <;> subst haw <;> cases e
    have main : ∀ W' H' v, Ext W W' → Sim X.K Tb B W' F ρ σ H' → VOk X.K B W' v aw → ra X.K Tb B g σ H' fun xs H2 => Q (v :: xs) H2 := fun W1 H1 v e1 s1 hv =>
      ⟨W1, F, ρ, s1, (Hold.bind z).mono fun as z2 => fun W2 H2 vs e2 s2 hvs => z2 W2 H2 (v :: vs) (e1.trans e2) s2 (haw ▸ .cons (hv.ext e2) hvs)⟩
    cases aw with
    | own ds => exact absurd rfl (nown ds)
    | _ => exact main
  exact key _ rfl
theorem pab_nil : PAB Tb B X [] fun _ => .ret [] := PA.weaken pa_nil fun σ H Q ⟨W, F, ρ, s, q⟩ => q W H [] (Ext.refl W) s fun _ _ _ _ _ => .nil
theorem pab_cons {e : Expr} {es : List Expr} {f : Env → T PyData} {g : Env → T (List PyData)} (he : PB Tb B X e f) (hes : PAB Tb B X es g)
    (hst : starEach (e :: es) X.env = (false, eval e X.env) :: starEach es X.env := by rfl) : PAB Tb B X (e :: es) fun ρ => (f ρ).bind fun a => (g ρ).bind fun as => .ret (a :: as) := by
  refine PA.weaken (pa_cons he hes hst) fun σ H Q ⟨W, F, ρ, s, q⟩ => ⟨W, F, ρ, s, (Hold.bind q).mono fun d z => fun W1 H1 v e1 s1 r1 => ?_⟩
  refine ⟨W1, F, ρ, s1, (Hold.bind z).mono fun ds z2 => fun W2 H2 vs e2 s2 r2 => z2 W2 H2 (v :: vs) (e1.trans e2) s2 fun W3 F3 H3 e3 s3 => .cons (r1 W3 F3 H3 (e2.trans e3) s3) (r2 W3 F3 H3 e3 s3)⟩
/-! ### displays -/
def allS : List AV → T (List PyData)
  | [] => .ret []
  | a :: as => (toS a).bind fun d => (allS as).bind fun ds => .ret (d :: ds)
def mkLst (as : List AV) : T AV := (allS as).bind fun ds => if ds.length ≤ 4000 then .ret (.own ds) else .err
def mkTup (as : List AV) : T AV := (allS as).bind fun ds => if ds.length ≤ 4000 then .ret (.sh (.tuple ds)) else .err
theorem VAll.data {K : PySem.W.Frag} {W : Wd} : ∀ {as : List AV} {vs : List V} {p : List PyData → Prop}, VAll K B W vs as → (∀ a ∈ as, ∀ ds, a ≠ .own ds) → Hold (allS as) p → ∃ ds, DpAll K W.Φ vs ds ∧ p ds
  | [], _, p, h, _, q => by cases h; exact ⟨[], .nil, q⟩
  | a :: as, _, p, h, hn, q => by
    cases h with
    | cons h1 h2 =>
      have q := Hold.bind q
      cases a with
      | sh d =>
        obtain ⟨ds, r1, r2⟩ := VAll.data (p := fun ds => p (d :: ds)) h2 (fun b hb => hn b (List.mem_cons_of_mem _ hb)) (Hold.bind q)
        exact ⟨d :: ds, .cons h1 r1, r2⟩
      | own ds => exact absurd rfl (hn _ List.mem_cons_self ds)
      | _ => exact q.elim
theorem VAll.noown {K : PySem.W.Frag} {W : Wd} {vs : List V} {as : List AV} (h : VAll K B W vs as) : ∀ a ∈ as, ∀ ds, a ≠ .own ds := by
  induction h with
  | nil => intro a ha; cases ha
  | cons h1 _ ih =>
    intro a ha ds e
    rcases List.mem_cons.mp ha with rfl | ha
    · subst e; exact h1
    · exact ih a ha ds e
theorem hold_if {α : Type} {c : Prop} [Decidable c] {m : T α} {p : α → Prop} (h : Hold (if c then m else .err) p) : c ∧ Hold m p := by
  by_cases hc : c
  · rw [if_pos hc] at h; exact ⟨hc, h⟩
  · rw [if_neg hc] at h; exact h.elim
theorem line4000 {n : Nat} (h : n ≤ 4000) : n ≤ sizeLine := Nat.le_trans h (by decide)
theorem pd_lst {es : List Expr} {f : Env → T (List AV)} {pos : Pos} (h : PAD Tb B X es f) : PD Tb B X (.List es pos) fun ρ => (f ρ).bind mkLst := by
  refine PE.weaken (pe_lst h) fun σ H Q ⟨W, F, ρ, s, q⟩ => ⟨W, F, ρ, s, (Hold.bind q).mono fun as z => fun W1 H1 vs e1 s1 hv => ?_⟩
  obtain ⟨ds, hd, z⟩ := hv.data hv.noown (Hold.bind z)
  obtain ⟨hz, z⟩ := hold_if z
  refine ⟨by rw [DpAll.len hd]; exact line4000 hz, fun p hp => ?_⟩
  obtain ⟨hF, s2⟩ := s1.new (vs := vs) hp
  exact z W1 _ p vs e1 hF s2 (by rw [DpAll.len hd]; exact line4000 hz) hd
theorem pd_tup {es : List Expr} {f : Env → T (List AV)} {k : Nat} {pos : Pos} (h : PAD Tb B X es f) : PD Tb B X (.Tuple es k pos) fun ρ => (f ρ).bind mkTup := by
  refine PE.weaken (pe_tup h) fun σ H Q ⟨W, F, ρ, s, q⟩ => ⟨W, F, ρ, s, (Hold.bind q).mono fun as z => fun W1 H1 vs e1 s1 hv => ?_⟩
  obtain ⟨ds, hd, z⟩ := hv.data hv.noown (Hold.bind z)
  obtain ⟨hz, z⟩ := hold_if z
  have hz' : vs.length ≤ sizeLine := by rw [DpAll.len hd]; exact line4000 hz
  refine ⟨hz', fun p hp => ?_⟩
  obtain ⟨W2, e2, s2, h2⟩ := s1.made (o := .tup vs) hp (by intro ps z; cases z) (by rintro xs (e | e | ⟨_, e⟩ | ⟨_, e⟩) <;> cases e; exact hz')
  exact z W2 _ (.ref p) (e1.trans e2) s2 (.tup (.inl (.inl h2)) (dpAll_le e2.φ _ _ hd))
/-! ### calls of own defs -/
theorem sp_use {σ : L2.St} {n : Nat} {f : List AV → T AV} {W W1 : Wd} {F : Hp} {ρ : Env} {H1 : Hp} {vs : List V} {as : List AV} {Q : VK} {E : XK} (e1 : Ext W W1) (s1 : Sim X.K Tb B W1 F ρ σ H1) (hv : VAll X.K B W1 vs as) (hn : as.length = n)
    (z : Hold (f as) (RPost X.K Tb B W F ρ σ Q)) : spD X.K Tb B n f vs H1 Q E := by
  refine ⟨W1, pack ρ σ F H1, as, s1.packed, hv, hn, z.mono fun av z => ?_⟩
  cases av with
  | own ds =>
    intro W2 H2 a xs e2 hpn w hz hd
    obtain ⟨hF, s2⟩ := s1.backOwn e2 hpn w
    exact z W2 H2 a xs (e1.trans e2) hF s2 hz hd
  | _ => exact fun W2 H2 v e2 w hv => z W2 H2 v (e1.trans e2) (s1.back e2 w) hv
def calling (n : Nat) (f : List AV → T AV) (as : List AV) : T AV := if as.length = n then f as else .err
theorem pd_call {k n : Nat} {f : Addr} {fd : FuncData} {ps : List Str} {d : List AV → T AV} {x : Str} {p pos : Pos} {e : Expr} {es : List Expr} {g : Env → T (List AV)}
    (G : FnOk X.prog X.w X.K X.mg X.base CX0 k f fd ps (spD X.K Tb B n d)) (hr : Room k X.A) (hg : Gl X x) (hm : X.mg x = some (.ref f)) (kp : PySem.W.keepIn X.K (.ref f) = true) (b : Binds X.K fd ps []) (ha : PAD Tb B X (e :: es) g)
    (hdb : (x == ("__debug__" : Str)) = false := by decide) (he : starEach (e :: es) X.env = (false, eval e X.env) :: starEach es X.env := by rfl) (hpl : (backTo pos (starEach es X.env)).any (·.1) = false := by rfl) :
    PD Tb B X (.Call (.Name x p) (e :: es) [] pos) fun ρ => (g ρ).bind (calling n d) := by
  refine PE.weaken (pe_call (dvs := []) (E := E0) G hr hg hm kp b .nil pass0 ha hdb he hpl) fun σ H Q ⟨W, F, ρ, s, q⟩ => ⟨W, F, ρ, s, (Hold.bind q).mono fun as z => fun W1 H1 vs e1 s1 hv => ?_⟩
  obtain ⟨hn, z⟩ := hold_if z
  rw [List.append_nil]
  exact sp_use e1 s1 hv hn z
/-! ### calls of built-ins, of what is read -/
def CallOk (Tb : List (Addr × Str)) (B : Wd → V → (List PyData → T PyData) → Prop) (K : PySem.W.Frag) (r : List V → Hp → VK → Prop) (f : List PyData → T AV) : Prop :=
  ∀ W F ρ σ H vs ds Q, Sim K Tb B W F ρ σ H → RbAll K W H vs ds → Hold (f ds) (RPost K Tb B W F ρ σ Q) → r vs H Q
theorem CallOk.run {r : List V → Hp → VK → Prop} {f : List PyData → T AV} {es : List Expr} {g : Env → T (List PyData)} (ok : CallOk Tb B X.K r f) {σ : L2.St} {H : Hp} {Q : VK}
    (h : rd X.K Tb B (fun ρ => (g ρ).bind f) σ H Q) : tCB r (rba X.K Tb B g) σ H Q := by
  obtain ⟨W, F, ρ, s, q⟩ := h
  refine ⟨W, F, ρ, s, (Hold.bind q).mono fun ds z => fun W1 H1 vs e1 s1 r1 => ?_⟩
  exact ok W1 F ρ σ H1 vs ds Q s1 (r1 W1 F H1 (Ext.refl _) s1) (z.mono fun av => RPost.ext e1)
theorem pd_blt {x : Str} {p pos : Pos} {e : Expr} {es : List Expr} {id : String} {r : List V → Hp → VK → Prop} {f : List PyData → T AV} {g : Env → T (List PyData)} (hc : CallR X (.builtin id) r) (ok : CallOk Tb B X.K r f) (hg : Gl X x) (hm : X.mg x = none)
    (hb : bootBuiltins x = some (.builtin id)) (ha : PAB Tb B X (e :: es) g) (hn : x ≠ "__name__" := by decide) (hd : (x == ("__debug__" : Str)) = false := by decide)
    (he : starEach (e :: es) X.env = (false, eval e X.env) :: starEach es X.env := by rfl) (hpl : (backTo pos (starEach es X.env)).any (·.1) = false := by rfl) : PD Tb B X (.Call (.Name x p) (e :: es) [] pos) fun ρ => (g ρ).bind f :=
  PE.weaken (pe_callB hc hg hm hb ha hn hd he hpl) fun _ _ _ h => ok.run (es := e :: es) h
theorem pd_ty {x : Str} {p pos : Pos} {e : Expr} {es : List Expr} {id : String} {r : List V → Hp → VK → Prop} {f : List PyData → T AV} {g : Env → T (List PyData)} (hc : CallR X (.type id) r) (ok : CallOk Tb B X.K r f) (hg : Gl X x) (hm : X.mg x = none)
    (hb : bootBuiltins x = some (.type id)) (ha : PAB Tb B X (e :: es) g) (hn : x ≠ "__name__" := by decide) (hd : (x == ("__debug__" : Str)) = false := by decide)
    (he : starEach (e :: es) X.env = (false, eval e X.env) :: starEach es X.env := by rfl) (hpl : (backTo pos (starEach es X.env)).any (·.1) = false := by rfl) : PD Tb B X (.Call (.Name x p) (e :: es) [] pos) fun ρ => (g ρ).bind f :=
  PE.weaken (pe_callTy hc hg hm hb ha hn hd he hpl) fun _ _ _ h => ok.run (es := e :: es) h
theorem CallR.or {f : Value} {r r' : List V → Hp → VK → Prop} (h : CallR X f r) (h' : CallR X f r') : CallR X f fun xs H Q => r xs H Q ∨ r' xs H Q :=
  fun pins s σ H xs us Q I b z => z.elim (h pins s σ H xs us Q I b) (h' pins s σ H xs us Q I b)
/-! ### subscripts -/
theorem pd_ix {a b : Expr} {r : R2} {f : PyData → PyData → T AV} {fa fb : Env → T PyData} {pos : Pos} (hr : IxR X r) (ok : OpOk Tb B X.K r f) (ha : PB Tb B X a fa) (hb : PB Tb B X b fb) (hp : PlainIx b) :
    PD Tb B X (.Subscript a b pos) fun ρ => (fa ρ).bind fun x => (fb ρ).bind fun y => f x y := PE.weaken (pe_ix hr ha hb hp) fun _ _ _ h => ok.run (a := a) (b := b) h
/-- a slice's part -/
def ro (K : PySem.W.Frag) (den : Env → T (Option Int)) : TO := fun σ H Q => ∃ W F ρ, Sim K Tb B W F ρ σ H ∧ Hold (den ρ) fun o => ∀ W' H', Ext W W' → Sim K Tb B W' F ρ σ H' → Q o H'
def toI : PyData → T Int
  | .int i => .ret i
  | _ => .err
theorem PO.weaken {e : Option Expr} {t t' : TO} (h : PO X e t) (f : ∀ σ H Q, t' σ H Q → t σ H Q) : PO X e t' := ⟨fun pins s σ H R I q => h.run pins s σ H R I (by
  exact f _ _ _ q)⟩
theorem po_none' : PO X none (ro (Tb := Tb) (B := B) X.K fun _ => .ret none) := PO.weaken po_none fun σ H Q ⟨W, F, ρ, s, q⟩ => q W H (Ext.refl _) s
theorem po_some' {e : Expr} {f : Env → T PyData} (h : PB Tb B X e f) : PO X (some e) (ro (Tb := Tb) (B := B) X.K fun ρ => (f ρ).bind fun d => (toI d).bind fun i => .ret (some i)) := by
  refine PO.weaken (po_some h) fun σ H Q ⟨W, F, ρ, s, q⟩ => ⟨W, F, ρ, s, (Hold.bind q).mono fun d z => fun W1 H1 v e1 s1 r1 => ?_⟩
  cases d with
  | int i =>
    have r := r1 W1 F H1 (Ext.refl _) s1
    cases r
    exact ⟨i, rfl, z W1 H1 e1 s1⟩
  | _ => exact z.elim
end
end Dn
end
section
set_option Elab.async false
set_option linter.all false
set_option autoImplicit false
set_option maxRecDepth 100000
/-! Dn3: what is walked, comprehensions, statements, defs. -/
namespace Dn
open PySem PySem.Spec PyProof.Rows L2 LamX

/-- an owned list of the frame is changed -/
theorem Sim.remake {K : PySem.W.Frag} {Tb : List (Addr × Str)} {B : Wd → V → (List PyData → T PyData) → Prop} {W : Wd} {F : Hp} {ρ : Env} {σ : L2.St} {H : Hp} {a : Addr} {vs vs' : List V} (hn : F a = none) (s : Sim K Tb B W (upd F a (.lst vs)) ρ σ H) : Sim K Tb B W (upd F a (.lst vs')) ρ σ (upd H a (.lst vs')) := by
  obtain ⟨d1, d2⟩ := s.w.dj a _ upd_same
  have hH := s.w.fr a _ upd_same
  have nW : ∀ b o, W.Φ b = some o → b ≠ a := fun b o e => ne_of_none e d1
  have nP : ∀ b, W.P b → b ≠ a := fun b e z => d2 (z ▸ e)
  refine ⟨⟨fun b o e => by rw [upd_ne (nW b o e)]; exact s.w.fz b o e, fun b o e => ?_, fun b o e => ?_, fun b hb => ?_, fun p hp => ?_, fun b o e => ?_, s.w.sz, fun b u e => by
    by_cases hb : b = a
    · rw [hb, upd_same] at e; cases e; exact ⟨_, rfl⟩
    · rw [upd_ne hb] at e; exact s.w.fl b u (by rw [upd_ne hb]; exact e)⟩, ⟨s.s.len, s.s.sh, fun i ds h => ?_, s.s.ne⟩⟩
  · by_cases hb : b = a
    · subst hb; rw [upd_same] at e ⊢; exact e
    · rw [upd_ne hb] at e ⊢
      exact s.w.fr b o (by rw [upd_ne hb]; exact e)
  · by_cases hb : b = a
    · subst hb; exact ⟨d1, d2⟩
    · rw [upd_ne hb] at e
      exact s.w.dj b o (by rw [upd_ne hb]; exact e)
  · obtain ⟨h1, x, y, h2, h3⟩ := s.w.pt b hb
    exact ⟨h1, x, y, by rw [upd_ne (nP b hb)]; exact h2, h3⟩
  · obtain ⟨ps, h1, h2, h3⟩ := s.w.tb p hp
    refine ⟨ps, by rw [upd_ne (ne_of h1 hH (by intro z; cases z))]; exact h1, h2, fun pos cv hc => ?_⟩
    obtain ⟨c, e1, e2⟩ := h3 pos cv hc
    exact ⟨c, e1, by rw [upd_ne (ne_of e2 hH (by intro z; unfold CodeO at z; cases z))]; exact e2⟩
  · by_cases hb : b = a
    · subst hb
      rcases e with e | e
      · rw [d1] at e; cases e
      · rw [upd_same] at e; cases e; intro ps z; cases z
    · refine s.w.nt b o (e.imp id fun e => ?_)
      rw [upd_ne hb] at e ⊢
      exact e
  · obtain ⟨b, ws, q1, q2, qz, q3, q4, q5⟩ := s.s.own i ds h
    have hb : b ≠ a := fun z => by subst z; rw [upd_same] at q4; cases q4
    rw [upd_ne hb] at q4
    exact ⟨b, ws, q1, by rw [upd_ne hb]; exact q2, qz, q3, by rw [upd_ne hb]; exact q4, q5⟩
/-! ### what is walked -/
section
variable (K : PySem.W.Frag) (Tb : List (Addr × Str)) (B : Wd → V → (List PyData → T PyData) → Prop)
structure Drives (J : It) (W0 : Wd) (ds : List PyData) : Prop where
  len : ds.length ≤ sizeLine
  go : ∀ i W F H, i < ds.length → Ext W0 W → WOk Tb W F H → J.go i H
  stop : ∀ W F H, Ext W0 W → WOk Tb W F H → J.stop ds.length H
  yld : ∀ i x H H' d W F ρ σ, ds[i]? = some d → Ext W0 W → Sim K Tb B W F ρ σ H → J.yld i H x H' → ∃ W', Ext W W' ∧ Sim K Tb B W' F ρ σ H' ∧ Dp K W'.Φ x d
def ri (den : Env → T (List PyData)) : TI := fun σ H R => ∃ W F ρ, Sim K Tb B W F ρ σ H ∧ Hold (den ρ) fun ds => ∀ W' H' J, Ext W W' → Sim K Tb B W' F ρ σ H' → Drives K Tb B J W' ds → R J H'
/-- a target: what it does to the slots vs -/
def Agree (vs : List Nat) {α : Type} (l l' : List α) : Prop := l'.length = l.length ∧ ∀ k, k ∉ vs → l'[k]? = l[k]?
def rg (vs : List Nat) (g : PyData → Env → T Env) : TG := fun v σ H Q => ∃ W F ρ d, Sim K Tb B W F ρ σ H ∧ Dp K W.Φ v d ∧ Hold (g d ρ) fun ρ' => ∀ W' σ' H', Ext W W' → Sim K Tb B W' F ρ' σ' H' → Agree vs σ σ' → Q σ' H'
def rgs (vs : List Nat) (g : List PyData → Env → T Env) : TGs := fun xs σ H Q => ∃ W F ρ ds, Sim K Tb B W F ρ σ H ∧ DpAll K W.Φ xs ds ∧ Hold (g ds ρ) fun ρ' => ∀ W' σ' H', Ext W W' → Sim K Tb B W' F ρ' σ' H' → Agree vs σ σ' → Q σ' H'
end
structure PID (Tb : List (Addr × Str)) (B : Wd → V → (List PyData → T PyData) → Prop) (X : Cx) (tg iter : Expr) (den : Env → T (List PyData)) : Prop where
  pi : PI X tg iter (ri X.K Tb B den)
structure PGD (Tb : List (Addr × Str)) (B : Wd → V → (List PyData → T PyData) → Prop) (X : Cx) (tg : Expr) (vs : List Nat) (g : PyData → Env → T Env) : Prop where
  pg : PG X tg (rg X.K Tb B vs g)
/-- what a target does is done at its slots alone -/
def AtOnly (vs : List Nat) {α : Type} (g : α → Env → T Env) : Prop := ∀ d ρ p, Hold (g d ρ) p → Hold (g d ρ) fun ρ' => p ρ' ∧ Agree vs ρ ρ'
theorem Agree.refl {vs : List Nat} {α : Type} (l : List α) : Agree vs l l := ⟨rfl, fun _ _ => rfl⟩
theorem Agree.trans {vs vs' : List Nat} {α : Type} {l l' l'' : List α} (a : Agree vs l l') (b : Agree vs' l' l'') : Agree (vs ++ vs') l l'' :=
  ⟨b.1.trans a.1, fun k hk => (b.2 k fun z => hk (List.mem_append_right _ z)).trans (a.2 k fun z => hk (List.mem_append_left _ z))⟩
theorem Agree.set {α : Type} (l : List α) (i : Nat) (x : α) : Agree [i] l (l.set i x) := ⟨by simp, fun k hk => by rw [List.getElem?_set_ne]; intro e; exact hk (by simp [e])⟩
theorem Agree.mono {vs vs' : List Nat} {α : Type} {l l' : List α} (a : Agree vs l l') (h : ∀ k ∈ vs, k ∈ vs') : Agree vs' l l' := ⟨a.1, fun k hk => a.2 k fun z => hk (h k z)⟩
section
variable {Tb : List (Addr × Str)} {B : Wd → V → (List PyData → T PyData) → Prop} {X : Cx}
theorem PI.weaken {tg e : Expr} {t t' : TI} (h : PI X tg e t) (f : ∀ σ H R, t' σ H R → t σ H R) : PI X tg e t' := ⟨fun pins s σ H R I q => h.run pins s σ H R I (f σ H R q)⟩
theorem PI.or {tg e : Expr} {t t' : TI} (h : PI X tg e t) (h' : PI X tg e t') : PI X tg e fun σ H R => t σ H R ∨ t' σ H R := ⟨fun pins s σ H R I q => q.elim (h.run pins s σ H R I) (h'.run pins s σ H R I)⟩
theorem PG.weaken {tg : Expr} {t t' : TG} (h : PG X tg t) (f : ∀ v σ H Q, t' v σ H Q → t v σ H Q) : PG X tg t' := ⟨fun pins s σ H v u Q I r q => h.run pins s σ H v u Q I r (f v σ H Q q)⟩
theorem PGs.weaken {tg : List Expr} {t t' : TGs} (h : PGs X tg t) (f : ∀ v σ H Q, t' v σ H Q → t v σ H Q) : PGs X tg t' := ⟨fun pins s σ H v u Q I r q => h.run pins s σ H v u Q I r (f v σ H Q q)⟩
/-- lists, tuples -/
def itemsD : PyData → T (List PyData)
  | .list ds => .ret ds
  | .tuple ds => .ret ds
  | _ => .err
theorem drives_list {K : PySem.W.Frag} {a : Addr} {xs : List V} {ds : List PyData} {W : Wd} {F H : Hp} (w : WOk Tb W F H) (h : SqL K W.Φ a xs) (hd : DpAll K W.Φ xs ds) : Drives K Tb B (Itl K a) W ds := by
  have hl := DpAll.len hd
  refine ⟨by rw [← hl]; exact sqL_sz w h, fun i W' F' H' hi e w' => ?_, fun W' F' H' e w' => ?_, fun i x H1 H2 d W' F' ρ σ hi e s hy => ?_⟩
  · obtain ⟨d, hd'⟩ : ∃ d, ds[i]? = some d := ⟨_, List.getElem?_eq_getElem hi⟩
    obtain ⟨v, hv, _⟩ := DpAll.get hd hd'
    exact ⟨xs, v, sqL_le w'.fz (sqL_le e.φ h), hv⟩
  · exact ⟨xs, sqL_le w'.fz (sqL_le e.φ h), by omega⟩
  · obtain ⟨rfl, hx⟩ := hy
    have q := hx xs (sqL_le s.w.fz (sqL_le e.φ h))
    obtain ⟨v, hv, hvd⟩ := DpAll.get hd hi
    rw [q] at hv; cases hv
    exact ⟨W', Ext.refl _, s, dp_le e.φ _ _ hvd⟩
theorem drives_tup {K : PySem.W.Frag} {a : Addr} {xs : List V} {ds : List PyData} {W : Wd} {F H : Hp} (w : WOk Tb W F H) (h : SqT K W.Φ a xs) (hd : DpAll K W.Φ xs ds) : Drives K Tb B (Itt K a) W ds := by
  have hl := DpAll.len hd
  refine ⟨by rw [← hl]; exact sqT_sz w h, fun i W' F' H' hi e w' => ?_, fun W' F' H' e w' => ?_, fun i x H1 H2 d W' F' ρ σ hi e s hy => ?_⟩
  · obtain ⟨d, hd'⟩ : ∃ d, ds[i]? = some d := ⟨_, List.getElem?_eq_getElem hi⟩
    obtain ⟨v, hv, _⟩ := DpAll.get hd hd'
    exact ⟨xs, v, sqT_le w'.fz (sqT_le e.φ h), hv⟩
  · exact ⟨xs, sqT_le w'.fz (sqT_le e.φ h), by omega⟩
  · obtain ⟨rfl, hx⟩ := hy
    have q := hx xs (sqT_le s.w.fz (sqT_le e.φ h))
    obtain ⟨v, hv, hvd⟩ := DpAll.get hd hi
    rw [q] at hv; cases hv
    exact ⟨W', Ext.refl _, s, dp_le e.φ _ _ hvd⟩
/-- by values: a list or a tuple is walked -/
theorem iter_seq {tg : Expr} {pins : List (Addr × Obj)} {σ : L2.St} {H : Hp} {s : Shared} {R : It → Hp → Prop} {a : Addr} {xs : List V} (I : Inv X pins σ H s) (h : (SqL X.K H a xs ∧ R (Itl X.K a) H) ∨ (SqT X.K H a xs ∧ R (Itt X.K a) H)) :
    wpAny (model X.prog X.w) X.A (pyIter (.ref a)) (PIE X pins σ tg R) X.xe s := by
  rcases h with ⟨h, q⟩ | ⟨h, q⟩
  · obtain ⟨its, rv, p, hz⟩ := I.list h
    exact wpAny_pyIter_list p.isList (pi_one (tk := s.toks) I _ (turn_list a _) ⟨_, Heap.get?_push_size _ rfl, rfl, rfl⟩ q)
  · obtain ⟨its, rv, p, hz⟩ := I.tuple h
    exact wpAny_pyIter_tuple (show s.heap.IsTuple a its.toArray from p) (pi_one (tk := s.toks) I _ (turn_tuple a _) ⟨_, Heap.get?_push_size _ rfl, rfl, rfl⟩ q)
theorem pid_seq {tg l : Expr} {f : Env → T AV} (h : PD Tb B X l f) : PID Tb B X tg l fun ρ => ((f ρ).bind toS).bind itemsD := by
  refine ⟨⟨fun pins s σ H R I hw => ?_⟩⟩
  obtain ⟨W, F, ρ, sm, q⟩ := hw
  have hh := h.run pins s σ H (fun x H1 => ∃ a, x = .ref a ∧ ((∃ xs, SqL X.K H1 a xs ∧ R (Itl X.K a) H1) ∨ (∃ xs, SqT X.K H1 a xs ∧ R (Itt X.K a) H1))) I ⟨W, F, ρ, sm, (Hold.bind (Hold.bind q)).mono fun av z => RPost.shd (z.mono fun d z W1 H1 v e1 s1 hv => by
    cases d with
    | list ds =>
      cases hv with
      | lst hs ha => exact ⟨_, rfl, .inl ⟨_, sqL_le s1.w.fz hs, z W1 H1 _ e1 s1 (drives_list s1.w hs ha)⟩⟩
    | tuple ds =>
      cases hv with
      | tup hs ha => exact ⟨_, rfl, .inr ⟨_, sqT_le s1.w.fz hs, z W1 H1 _ e1 s1 (drives_tup s1.w hs ha)⟩⟩
    | _ => exact z.elim)⟩
  refine thn hh fun v s1 ⟨x, H1, I1, r1, a, e, z⟩ => ?_
  subst e
  cases r1
  rcases z with ⟨xs, z⟩ | ⟨xs, z⟩
  · exact iter_seq (xs := xs) I1 (.inl z)
  · exact iter_seq (xs := xs) I1 (.inr z)
/-- numbers lo, lo + 1, .. -/
def upFrom (lo : Int) (n : Nat) : List PyData := (List.range n).map fun i : Nat => PyData.int (lo + (i : Int))
theorem drives_range {K : PySem.W.Frag} {lo : Int} {n : Nat} {W : Wd} (hn : n ≤ sizeLine) : Drives K Tb B (Itr lo n) W (upFrom lo n) := by
  have hl : (upFrom lo n).length = n := by simp [upFrom]
  refine ⟨by rw [hl]; exact hn, fun i W' F' H' hi e w' => by rw [hl] at hi; exact hi, fun W' F' H' e w' => by rw [hl]; exact Nat.le_refl n, fun i x H1 H2 d W' F' ρ σ hi e s hy => ?_⟩
  obtain ⟨rfl, rfl⟩ := hy
  have hi' : i < n := by rw [← hl]; exact lt_of_get hi
  have : d = PyData.int (lo + (i : Int)) := by
    unfold upFrom at hi
    rw [List.getElem?_map, List.getElem?_range hi'] at hi
    exact (Option.some.inj hi).symm
  subst this
  exact ⟨W', Ext.refl _, s, .int _⟩
def rangeD : List PyData → T (List PyData)
  | [.int j] => if j.toNat ≤ 100000 then .ret (upFrom 0 j.toNat) else .err
  | [.int i, .int j] => if (j - i).toNat ≤ 100000 ∧ i.natAbs ≤ 1000000 ∧ j.natAbs ≤ 1000000 then .ret (upFrom i (j - i).toNat) else .err
  | _ => .err
theorem pid_range1 {tg a : Expr} {f : Env → T PyData} {p pos : Pos} (hg : Gl X "range") (hm : X.mg "range" = none) (ha : PB Tb B X a f) (h1 : starEach [a] X.env = [(false, eval a X.env)] := by rfl) :
    PID Tb B X tg (.Call (.Name "range" p) [a] [] pos) fun ρ => (f ρ).bind fun d => match d with
      | .int j => if j ≤ 100000 ∧ -100000 ≤ j then .ret (upFrom 0 j.toNat) else .err
      | _ => .err := by
  refine ⟨PI.weaken (pi_range1 hg hm (pa_cons ha pa_nil h1) h1) fun σ H R ⟨W, F, ρ, s, q⟩ => ⟨W, F, ρ, s, (Hold.bind q).mono fun d z => fun W1 H1 v e1 s1 r1 => ?_⟩⟩
  have r := r1 W1 F H1 (Ext.refl _) s1
  cases d with
  | int j =>
    cases r
    obtain ⟨hz, z⟩ := hold_if z
    refine ⟨j, rfl, by omega, by omega, ?_⟩
    have hs : (100000 : Nat) ≤ sizeLine := by decide
    exact z W1 H1 _ e1 s1 (drives_range (by omega))
  | _ => exact z.elim
/-! ### targets -/
theorem pgd_name {i : Nat} {tg : Expr} (h : PG X tg (gName i)) : PGD Tb B X tg [i] fun d ρ => .ret (ρ.set i (.sh d)) :=
  ⟨PG.weaken h fun v σ H Q ⟨W, F, ρ, d, s, hd, q⟩ => q W _ H (Ext.refl _) (s.set (av := .sh d) hd) (Agree.set _ _ _)⟩
theorem only_name {i : Nat} : AtOnly [i] fun (d : PyData) ρ => .ret (ρ.set i (.sh d)) := fun d ρ p h => ⟨h, Agree.set _ _ _⟩
theorem pgsd_nil : PGs X [] (rgs X.K Tb B [] fun ds ρ => match ds with
    | [] => .ret ρ
    | _ => .err) := PGs.weaken pgs_nil fun vs σ H Q ⟨W, F, ρ, ds, s, hd, q⟩ => by
  cases ds with
  | nil =>
    cases hd
    exact ⟨rfl, q W σ H (Ext.refl _) s (Agree.refl _)⟩
  | cons _ _ => exact q.elim
def consG (g : PyData → Env → T Env) (gs : List PyData → Env → T Env) (ds : List PyData) (ρ : Env) : T Env := match ds with
  | [] => .err
  | d :: r => (g d ρ).bind fun ρ' => gs r ρ'
theorem pgsd_cons {e : Expr} {es : List Expr} {vs vs' : List Nat} {g : PyData → Env → T Env} {gs : List PyData → Env → T Env} (h1 : PGD Tb B X e vs g) (h2 : PGs X es (rgs X.K Tb B vs' gs))
    (hs : (assignEach (e :: es) X.env).map (·.2) = assign e X.env :: (assignEach es X.env).map (·.2) := by rfl) : PGs X (e :: es) (rgs X.K Tb B (vs ++ vs') (consG g gs)) := by
  refine PGs.weaken (pgs_cons h1.pg h2 hs) fun xs σ H Q ⟨W, F, ρ, ds, s, hd, q⟩ => ?_
  cases ds with
  | nil => exact q.elim
  | cons d ds =>
    cases hd with
    | cons hd1 hd2 =>
      refine ⟨_, _, rfl, W, F, ρ, d, s, hd1, (Hold.bind q).mono fun ρ1 z W1 σ1 H1 e1 s1 a1 => ?_⟩
      exact ⟨W1, F, ρ1, ds, s1, dpAll_le e1.φ _ _ hd2, z.mono fun ρ2 z W2 σ2 H2 e2 s2 a2 => z W2 σ2 H2 (e1.trans e2) s2 (a1.trans a2)⟩
theorem only_nil : AtOnly [] fun (ds : List PyData) ρ => match ds with
    | [] => T.ret ρ
    | _ => T.err := fun d ρ p h => by
  cases d with
  | nil => exact ⟨h, Agree.refl _⟩
  | cons _ _ => exact h.elim
theorem only_cons {vs vs' : List Nat} {g : PyData → Env → T Env} {gs : List PyData → Env → T Env} (h1 : AtOnly vs g) (h2 : AtOnly vs' gs) : AtOnly (vs ++ vs') (consG g gs) := fun ds ρ p h => by
  cases ds with
  | nil => exact h.elim
  | cons d r =>
    refine Hold.bind' ((h1 d ρ _ (Hold.bind h)).mono fun ρ1 ⟨z, a⟩ => ?_)
    exact (h2 r ρ1 p z).mono fun ρ2 ⟨z, b⟩ => ⟨z, a.trans b⟩
def tupG (n : Nat) (gs : List PyData → Env → T Env) (d : PyData) (ρ : Env) : T Env := match d with
  | .tuple ds => if ds.length = n then gs ds ρ else .err
  | _ => .err
theorem pgd_tup {es : List Expr} {k : Nat} {vs : List Nat} {gs : List PyData → Env → T Env} {n : Nat} {pos : Pos} (hc : X.calm = true) (h : PGs X es (rgs X.K Tb B vs gs))
    (hn : (assignEach es X.env).length = n := by rfl) (hst : (assignEach es X.env).findIdx? (·.1) = none := by rfl) : PGD Tb B X (.Tuple es k pos) vs (tupG n gs) := by
  refine ⟨PG.weaken (pg_tup hc h hn hst) fun v σ H Q ⟨W, F, ρ, d, s, hd, q⟩ => ?_⟩
  cases d with
  | tuple ds =>
    obtain ⟨hz, z⟩ := hold_if q
    cases hd with
    | tup hs ha => exact ⟨_, _, rfl, sqT_le s.w.fz hs, (DpAll.len ha).trans hz, W, F, ρ, ds, s, ha, z⟩
  | _ => exact q.elim
theorem only_tup {vs : List Nat} {gs : List PyData → Env → T Env} {n : Nat} (h : AtOnly vs gs) : AtOnly vs (tupG n gs) := fun d ρ p q => by
  cases d with
  | tuple ds =>
    obtain ⟨hz, z⟩ := hold_if q
    have r := h ds ρ p z
    show Hold (if ds.length = n then gs ds ρ else .err) _
    rw [if_pos hz]
    exact r
  | _ => exact q.elim
/-! ### list comprehensions -/
def wipeE (vs : List Nat) (ρ : Env) : Env := vs.foldr (fun v ρ => ρ.set v .no) ρ
def notOwn (ρ : Env) (v : Nat) : Bool := match ρ[v]? with
  | some (.own _) => false
  | _ => true
def lcItems (vs : List Nat) (g : PyData → Env → T Env) (t : Env → T Bool) (f : Env → T AV) (ρ : Env) : List PyData → T (List PyData)
  | [] => .ret []
  | d :: ds => (g d (wipeE vs ρ)).bind fun ρ1 => (t ρ1).bind fun b => if b = true then ((f ρ1).bind toS).bind fun y => (lcItems vs g t f ρ ds).bind fun ys => .ret (y :: ys) else lcItems vs g t f ρ ds
def lcD (vs : List Nat) (it : Env → T (List PyData)) (g : PyData → Env → T Env) (t : Env → T Bool) (f : Env → T AV) (ρ : Env) : T AV :=
  (it ρ).bind fun ds => if vs.all (notOwn ρ) = true then (lcItems vs g t f ρ ds).bind fun ys => .ret (.own ys) else .err
theorem wipe_agree (σ : L2.St) : ∀ vs : List Nat, Agree vs σ (wipe σ vs)
  | [] => Agree.refl _
  | v :: vs => by
    have a := wipe_agree σ vs
    refine ⟨by unfold wipe; simp [a.1], fun k hk => ?_⟩
    unfold wipe
    rw [List.getElem?_set_ne (by intro e; exact hk (by simp [e]))]
    exact a.2 k fun z => hk (List.mem_cons_of_mem _ z)
theorem wipeE_agree (ρ : Env) : ∀ vs : List Nat, Agree vs ρ (wipeE vs ρ)
  | [] => Agree.refl _
  | v :: vs => by
    have a := wipeE_agree ρ vs
    refine ⟨by show ((wipeE vs ρ).set v .no).length = _; simp [a.1], fun k hk => ?_⟩
    show ((wipeE vs ρ).set v .no)[k]? = _
    rw [List.getElem?_set_ne (by intro e; exact hk (by simp [e]))]
    exact a.2 k fun z => hk (List.mem_cons_of_mem _ z)
theorem wipe_none {σ : L2.St} : ∀ {vs : List Nat} {k : Nat}, k ∈ vs → k < σ.length → (wipe σ vs)[k]? = some none
  | v :: vs, k, hk, hl => by
    unfold wipe
    by_cases e : v = k
    · subst e
      rw [List.getElem?_set_self (by rw [wipe_length]; exact hl)]
    · rw [List.getElem?_set_ne e]
      exact wipe_none ((List.mem_cons.mp hk).resolve_left fun z => e z.symm) hl
theorem wipe_eq {σ σ' : L2.St} {vs : List Nat} (a : Agree vs σ σ') : wipe σ' vs = wipe σ vs := by
  apply List.ext_getElem?
  intro k
  by_cases hk : k ∈ vs
  · by_cases hl : k < σ.length
    · rw [wipe_none hk hl, wipe_none hk (by rw [a.1]; exact hl)]
    · rw [List.getElem?_eq_none (by rw [wipe_length, a.1]; omega), List.getElem?_eq_none (by rw [wipe_length]; omega)]
  · rw [(wipe_agree σ' vs).2 k hk, a.2 k hk, (wipe_agree σ vs).2 k hk]
theorem wipeE_no {ρ : Env} : ∀ {vs : List Nat} {k : Nat} {av : AV}, k ∈ vs → (wipeE vs ρ)[k]? = some av → av = .no
  | v :: vs, k, av, hk, h => by
    have h : ((wipeE vs ρ).set v .no)[k]? = some av := h
    rcases set_get h with ⟨_, z⟩ | ⟨hne, h⟩
    · exact z.symm
    · exact wipeE_no ((List.mem_cons.mp hk).resolve_left fun z => hne z.symm) h
theorem Sim.wipe {K : PySem.W.Frag} {W : Wd} {F : Hp} {ρ : Env} {σ : L2.St} {H : Hp} (s : Sim K Tb B W F ρ σ H) (vs : List Nat) : Sim K Tb B W F (wipeE vs ρ) (L2.wipe σ vs) H := by
  have aρ := wipeE_agree ρ vs
  have aσ := wipe_agree σ vs
  have key : ∀ {k : Nat} {av : AV}, (wipeE vs ρ)[k]? = some av → av ≠ .no → k ∉ vs ∧ ρ[k]? = some av := fun {k av} h hn => by
    have hk : k ∉ vs := fun z => hn (wipeE_no z h)
    exact ⟨hk, by rw [← aρ.2 k hk]; exact h⟩
  refine ⟨s.w, ⟨by rw [aρ.1, aσ.1]; exact s.s.len, fun i av h1 h2 h3 => ?_, fun i ds h => ?_, fun i j ds es a hij h1 h2 h3 => ?_⟩⟩
  · obtain ⟨hk, h⟩ := key h1 h2
    obtain ⟨v, q1, q2⟩ := s.s.sh i av h h2 h3
    exact ⟨v, by rw [aσ.2 i hk]; exact q1, q2⟩
  · obtain ⟨hk, h⟩ := key h (by intro z; cases z)
    obtain ⟨a, vs', q1, q2⟩ := s.s.own i ds h
    exact ⟨a, vs', by rw [aσ.2 i hk]; exact q1, q2⟩
  · obtain ⟨k1, h1⟩ := key h1 (by intro z; cases z)
    obtain ⟨k2, h2⟩ := key h2 (by intro z; cases z)
    rw [aσ.2 i k1] at h3
    rw [aσ.2 j k2]
    exact s.s.ne i j ds es a hij h1 h2 h3
/-- out of the block -/
theorem Sim.unwipe {K : PySem.W.Frag} {W W2 : Wd} {F F2 : Hp} {ρ ρ1 : Env} {σ σ2 : L2.St} {H H2 : Hp} {vs : List Nat} (s : Sim K Tb B W F ρ σ H) (e : Ext W W2) (hv : vs.all (notOwn ρ) = true) (aρ : Agree vs ρ ρ1) (aσ : Agree vs σ σ2) (s2 : Sim K Tb B W2 F2 ρ1 σ2 H2) : Sim K Tb B W2 F2 ρ σ H2 := by
  have hk : ∀ {k : Nat} {ds : List PyData}, ρ[k]? = some (.own ds) → k ∉ vs := fun {k ds} h hm => by
    have q := List.all_eq_true.mp hv k hm
    unfold notOwn at q
    rw [h] at q
    cases q
  refine ⟨s2.w, ⟨s.s.len, fun i av h1 h2 h3 => ?_, fun i ds h => ?_, fun i j ds es a hij h1 h2 h3 => ?_⟩⟩
  · obtain ⟨v, q1, q2⟩ := s.s.sh i av h1 h2 h3
    exact ⟨v, q1, q2.ext e⟩
  · have hi := hk h
    obtain ⟨a, vs', q1, q2⟩ := s2.s.own i ds (by rw [aρ.2 i hi]; exact h)
    exact ⟨a, vs', by rw [← aσ.2 i hi]; exact q1, q2⟩
  · exact s.s.ne i j ds es a hij h1 h2 h3
abbrev lcTest0 : Env → T Bool := fun _ => .ret true
theorem pts_d0 : PTs X [] (rt X.K Tb B lcTest0) := ⟨fun pins s σ H Q I ⟨W, F, ρ, sm, q⟩ => pts_nil.run pins s σ H Q I (q W H (Ext.refl _) sm)⟩
theorem pts_d1 {c : Expr} {t : Env → T Bool} (h : PTD Tb B X c t) : PTs X [c] (rt X.K Tb B t) := pts_one h
theorem lc_read {it : Env → T (List PyData)} {g : PyData → Env → T Env} {t : Env → T Bool} {f : Env → T AV} {vs : List Nat} (hg : AtOnly vs g) {σ : L2.St} {H : Hp} {Q : VK}
    (h : rd X.K Tb B (lcD vs it g t f) σ H Q) : tLc (ri X.K Tb B it) (rg X.K Tb B vs g) (rt X.K Tb B t) (rd X.K Tb B f) vs σ H Q := by
  obtain ⟨W, F, ρ, s, q⟩ := h
  refine ⟨W, F, ρ, s, (Hold.bind q).mono fun ds z => fun W1 H1 J e1 s1 dr => fun D hD => ?_⟩
  obtain ⟨hv, z⟩ := hold_if z
  have z := Hold.bind z
  obtain ⟨hFD, s1D⟩ := s1.new (vs := []) hD
  refine ⟨fun i m H' => m = ds.length - i ∧ i ≤ ds.length ∧ ∃ W' acc ys, Ext W1 W' ∧ Sim X.K Tb B W' (upd F D (.lst acc)) ρ σ H' ∧ DpAll X.K W'.Φ acc ys ∧ acc.length ≤ i ∧
      Hold (lcItems vs g t f ρ (ds.drop i)) fun zs => RPost X.K Tb B W F ρ σ Q (.own (ys ++ zs)), ⟨ds.length, rfl, Nat.zero_le _, W1, [], [], Ext.refl _, s1D, .nil, Nat.le_refl _, ?_⟩, ?_⟩
  · rw [List.drop_zero]
    exact z.mono fun ys z => by rw [List.nil_append]; exact z
  rintro i m H' ⟨rfl, hi, W', acc, ys, e', s', hacc, hlen, hq⟩
  have hlenD := dr.len
  by_cases hlt : i < ds.length
  · refine .inr ⟨dr.go i W' _ H' hlt e' s'.w, fun H'' => ∃ W' acc ys, Ext W1 W' ∧ Sim X.K Tb B W' (upd F D (.lst acc)) ρ σ H'' ∧ DpAll X.K W'.Φ acc ys ∧ acc.length ≤ i + 1 ∧
      Hold (lcItems vs g t f ρ (ds.drop (i + 1))) fun zs => RPost X.K Tb B W F ρ σ Q (.own (ys ++ zs)), fun H'' ⟨W'', acc'', ys'', h1, h2, h3, h4, h5⟩ => ⟨ds.length - (i + 1), by omega, rfl, hlt, W'', acc'', ys'', h1, h2, h3, h4, h5⟩, fun x H2 hy => ?_⟩
    have hd : ds[i]? = some ds[i] := List.getElem?_eq_getElem hlt
    obtain ⟨W2, e2, s2, hx⟩ := dr.yld i x H' H2 _ W' _ ρ σ hd e' s' hy
    rw [List.drop_eq_getElem_cons hlt] at hq
    have sw := s2.wipe vs
    refine ⟨W2, _, _, _, sw, hx, (hg _ _ _ (Hold.bind hq)).mono fun ρ1 ⟨z1, a1⟩ W3 σ3 H3 e3 s3 a3 => ⟨?_, ?_⟩⟩
    · rw [wipe_eq a3]
      exact wipe_eq (wipe_agree σ vs)
    · refine ⟨W3, _, ρ1, s3, (Hold.bind z1).mono fun b zb W4 H4 e4 s4 => ite_c zb (fun zb => ?_) fun zb => ?_⟩
      · -- an element
        have aρ : Agree vs ρ ρ1 := ((wipeE_agree ρ vs).trans a1).mono fun k hk => by simpa using hk
        have aσ : Agree vs σ σ3 := ((wipe_agree σ vs).trans a3).mono fun k hk => by simpa using hk
        refine ⟨W4, _, ρ1, s4, (Hold.bind (Hold.bind zb)).mono fun av zy => RPost.shd (zy.mono fun y zy W5 H5 v e5 s5 hv5 => ?_)⟩
        have s6 := s2.unwipe ((e3.trans e4).trans e5) hv aρ aσ s5
        refine ⟨acc, s6.w.fr D _ upd_same, by omega, W5, acc ++ [v], ys ++ [y], ((e'.trans e2).trans (e3.trans e4)).trans e5, ?_, DpAll.app (dpAll_le (((e2.trans e3).trans e4).trans e5).φ _ _ hacc) (DpAll.one hv5), by simp; omega, (Hold.bind zy).mono fun zs zz => ?_⟩
        · -- the list is changed
          exact s6.remake hFD
        · rw [List.append_assoc]
          exact zz
      · have aρ : Agree vs ρ ρ1 := ((wipeE_agree ρ vs).trans a1).mono fun k hk => by simpa using hk
        have aσ : Agree vs σ σ3 := ((wipe_agree σ vs).trans a3).mono fun k hk => by simpa using hk
        have s6 := s2.unwipe (e3.trans e4) hv aρ aσ s4
        exact ⟨W4, acc, ys, (e'.trans e2).trans (e3.trans e4), s6, dpAll_le ((e2.trans e3).trans e4).φ _ _ hacc, by omega, zb⟩
  · have e : i = ds.length := by omega
    subst e
    rw [List.drop_length] at hq
    refine .inl ⟨dr.stop W' _ H' e' s'.w, ?_⟩
    have hq : RPost X.K Tb B W F ρ σ Q (.own (ys ++ [])) := hq
    rw [List.append_nil] at hq
    exact hq W' H' D acc (e1.trans e') hFD s' (by omega) hacc
theorem pd_lc {elt tg iter : Expr} {ifs : List Expr} {scope : Scope} {own : List (Str × Nat)} {pos : Pos} {it : Env → T (List PyData)} {g : PyData → Env → T Env} {t : Env → T Bool} {f : Env → T AV} (hc : X.calm = true) (hN : X.N.Nodup) (hi : PID Tb B X tg iter it) (ok : BlkOk X.N X.env.scope scope own)
    (ho : AtOnly (own.map (·.2)) g) (hg : ∀ (s : Shared) (H : Hp) (C : Addr) (cl : List (Str × Addr)) (fp : List Addr), PGD Tb B (X.blk s H scope (compEnvC scope cl C X.env) fp) tg (own.map (·.2)) g)
    (ht : ∀ (s : Shared) (H : Hp) (C : Addr) (cl : List (Str × Addr)) (fp : List Addr), PTs (X.blk s H scope (compEnvC scope cl C X.env) fp) ifs (rt X.K Tb B t))
    (he : ∀ (s : Shared) (H : Hp) (C : Addr) (cl : List (Str × Addr)) (fp : List Addr), PD Tb B (X.blk s H scope (compEnvC scope cl C X.env) fp) elt f) (hs : ∀ x, foldedSetIterable iter X.env x = pure x := by intro _; rfl) :
    PD Tb B X (.ListComp elt [⟨tg, iter, ifs, 0⟩] scope pos) (lcD (own.map (·.2)) it g t f) :=
  PE.weaken (pe_lc hc hN hi.pi ok (fun s H C cl fp => (hg s H C cl fp).pg) ht he hs) fun _ _ _ h => lc_read ho h
/-! ### statements -/
theorem psd_nil : PSsD Tb B X [] fun ρ => .ret (.nx ρ) := PSs.weaken pss_nil fun D σ H ⟨W, F, ρ, s, q⟩ => q W σ H (Ext.refl _) s
def seqD (f g : Env → T Out) (ρ : Env) : T Out := (f ρ).bind fun o => match o with
  | .nx ρ' => g ρ'
  | o => .ret o
theorem seq_read {K : PySem.W.Frag} {f g : Env → T Out} {D : Ends} {σ : L2.St} {H : Hp} (h : rs K Tb B (seqD f g) D σ H) : tSeq (rs K Tb B f) (rs K Tb B g) D σ H := by
  obtain ⟨W, F, ρ, s, q⟩ := h
  refine ⟨W, F, ρ, s, (Hold.bind q).mono fun o z => ?_⟩
  cases o with
  | nx ρ' => exact fun W1 σ1 H1 e1 s1 => ⟨W1, F, ρ', s1, z.mono fun o z => OPost.ext e1 z⟩
  | rt av => cases av <;> exact z
  | bk ρ' => exact z
  | ct ρ' => exact z
theorem psd_cons {st : Stmt} {rest : List Stmt} {f g : Env → T Out} (h1 : PSD Tb B X st f) (h2 : PSsD Tb B X rest g) : PSsD Tb B X (st :: rest) (seqD f g) := PSs.weaken (pss_cons h1 h2) fun _ _ _ h => seq_read h
theorem psd_one {st : Stmt} {f : Env → T Out} (h1 : PSD Tb B X st f) : PSsD Tb B X [st] f := pss_one h1
/-- lists are given to the world ahead of a statement -/
theorem Sim.shareAll {K : PySem.W.Frag} {F : Hp} {σ : L2.St} {H : Hp} : ∀ (is : List Nat) {W : Wd} {ρ : Env}, Sim K Tb B W F ρ σ H → ∃ W', Ext W W' ∧ Sim K Tb B W' F (Dn.share is ρ) σ H
  | [], W, ρ, s => ⟨W, Ext.refl _, s⟩
  | i :: is, W, ρ, s => by
    have one : ∃ W', Ext W W' ∧ Sim K Tb B W' F (share1 ρ i) σ H := by
      unfold share1
      cases e : ρ[i]? with
      | none => exact ⟨W, Ext.refl _, s⟩
      | some av => cases av with
        | own ds =>
          obtain ⟨W', v, e1, s1, _⟩ := s.share e
          exact ⟨W', e1, s1⟩
        | _ => exact ⟨W, Ext.refl _, s⟩
    obtain ⟨W1, e1, s1⟩ := one
    obtain ⟨W2, e2, s2⟩ := Sim.shareAll is s1
    exact ⟨W2, e1.trans e2, s2⟩
theorem psd_share {st : Stmt} {f : Env → T Out} (is : List Nat) (h : PSD Tb B X st f) : PSD Tb B X st fun ρ => f (share is ρ) := PS.weaken h fun D σ H ⟨W, F, ρ, s, q⟩ => by
  obtain ⟨W', e, s'⟩ := s.shareAll is
  exact ⟨W', F, _, s', q.mono fun o z => OPost.ext e z⟩
theorem ptd_share {st : Expr} {f : Env → T Bool} (is : List Nat) (h : PTD Tb B X st f) : ∀ σ H Q, (∃ W F ρ, Sim X.K Tb B W F ρ σ H ∧ Hold (f (share is ρ)) fun b => ∀ W' H', Ext W W' → Sim X.K Tb B W' F (share is ρ) σ H' → Q b H') → rt X.K Tb B f σ H Q := fun σ H Q ⟨W, F, ρ, s, q⟩ => by
  obtain ⟨W', e, s'⟩ := s.shareAll is
  exact ⟨W', F, _, s', q.mono fun b z W2 H2 e2 s2 => z W2 H2 (e.trans e2) s2⟩
def forget (is : List Nat) (ρ : Env) : Env := is.foldl (fun ρ i => ρ.set i .no) ρ
theorem Sim.forgetAll {K : PySem.W.Frag} {F : Hp} {σ : L2.St} {H : Hp} {W : Wd} : ∀ (is : List Nat) {ρ : Env}, Sim K Tb B W F ρ σ H → Sim K Tb B W F (Dn.forget is ρ) σ H
  | [], _, s => s
  | i :: is, _, s => Sim.forgetAll is (s.forget i)
def Out.forget (is : List Nat) : Out → Out
  | .nx ρ => .nx (Dn.forget is ρ)
  | .bk ρ => .bk (Dn.forget is ρ)
  | .ct ρ => .ct (Dn.forget is ρ)
  | o => o
theorem OPost.forget {K : PySem.W.Frag} {W : Wd} {F : Hp} {D : Ends} {o : Out} (is : List Nat) (h : OPost K Tb B W F D (o.forget is)) : OPost K Tb B W F D o := by
  cases o with
  | rt av => exact h
  | _ => exact fun W' σ' H' e s => h W' σ' H' e (s.forgetAll is)
theorem psd_forget {st : Stmt} {f : Env → T Out} (is : List Nat) (h : PSD Tb B X st f) : PSD Tb B X st fun ρ => (f ρ).bind fun o => .ret (o.forget is) := PS.weaken h fun D σ H ⟨W, F, ρ, s, q⟩ =>
  ⟨W, F, ρ, s, (Hold.bind q).mono fun o z => OPost.forget is z⟩
theorem pssd_forget {st : List Stmt} {f : Env → T Out} (is : List Nat) (h : PSsD Tb B X st f) : PSsD Tb B X st fun ρ => (f ρ).bind fun o => .ret (o.forget is) := PSs.weaken h fun D σ H ⟨W, F, ρ, s, q⟩ =>
  ⟨W, F, ρ, s, (Hold.bind q).mono fun o z => OPost.forget is z⟩
def setV (i : Nat) (av : AV) (ρ : Env) : T Env := match av with
  | .no => .err
  | av => .ret (ρ.set i av)
def setD (i : Nat) (f : Env → T AV) (ρ : Env) : T Out := (f ρ).bind fun av => (setV i av ρ).bind fun ρ' => .ret (.nx ρ')
theorem Hold.setV {i : Nat} {av : AV} {ρ : Env} {p : Env → Prop} (h : Hold (Dn.setV i av ρ) p) : av ≠ .no ∧ p (ρ.set i av) := by
  cases av with
  | no => exact h.elim
  | _ => exact ⟨by intro z; (cases z), h⟩
theorem set_read {K : PySem.W.Frag} {i : Nat} {f : Env → T AV} {D : Ends} {σ : L2.St} {H : Hp} (h : rs K Tb B (setD i f) D σ H) : tAsg (rd K Tb B f) (gName i) D σ H := by
  obtain ⟨W, F, ρ, s, q⟩ := h
  refine ⟨W, F, ρ, s, (Hold.bind q).mono fun av z => rpost_of fun W' H' v F' e g s' => ?_⟩
  obtain ⟨hno, z⟩ := Hold.setV (Hold.bind z)
  exact z W' _ H' e (s'.put g hno)
theorem psd_set {st : Stmt} {i : Nat} {f : Env → T AV} (h : PS X st (tAsg (rd X.K Tb B f) (gName i))) : PSD Tb B X st (setD i f) := PS.weaken h fun _ _ _ h => set_read h
/-- x = [.. for ..] -/
theorem psd_setLc {i : Nat} {y : Str} {py : Pos} {elt tg iter : Expr} {ifs : List Expr} {scope : Scope} {own : List (Str × Nat)} {pos spos : Pos} {it : Env → T (List PyData)} {g : PyData → Env → T Env} {t : Env → T Bool} {f : Env → T AV} (hc : X.calm = true) (hN : X.N.Nodup) (hy : X.N[i]? = some y) (hyl : X.env.scope.names.lookup y = some .local)
    (hsw : swapsWith (.ListComp elt [⟨tg, iter, ifs, 0⟩] scope pos) (some (.Name y py)) spos.line X.env = pure true) (hi : PID Tb B X tg iter it) (ok : BlkOk X.N X.env.scope scope own)
    (ho : AtOnly (own.map (·.2)) g) (hg : ∀ (s : Shared) (H : Hp) (C : Addr) (cl : List (Str × Addr)) (fp : List Addr), PGD Tb B (X.blk s H scope (compEnvC scope cl C X.env) fp) tg (own.map (·.2)) g)
    (ht : ∀ (s : Shared) (H : Hp) (C : Addr) (cl : List (Str × Addr)) (fp : List Addr), PTs (X.blk s H scope (compEnvC scope cl C X.env) fp) ifs (rt X.K Tb B t))
    (he : ∀ (s : Shared) (H : Hp) (C : Addr) (cl : List (Str × Addr)) (fp : List Addr), PD Tb B (X.blk s H scope (compEnvC scope cl C X.env) fp) elt f) (hs : ∀ x, foldedSetIterable iter X.env x = pure x := by intro _; rfl) :
    PSD Tb B X (.Assign [.Name y py] (.ListComp elt [⟨tg, iter, ifs, 0⟩] scope pos) spos) (setD i (lcD (own.map (·.2)) it g t f)) :=
  PS.weaken (ps_setLc hc hN hy hyl hsw hi.pi ok (fun s H C cl fp => (hg s H C cl fp).pg) ht he hs) fun D σ H h => by
    obtain ⟨W, F, ρ, s, q⟩ := h
    refine lc_read ho ⟨W, F, ρ, s, (Hold.bind q).mono fun av z => rpost_of fun W' H' v F' e g s' => ?_⟩
    obtain ⟨hno, z⟩ := Hold.setV (Hold.bind z)
    exact z W' _ H' e (s'.put g hno)
/-- a, b = e1, e2 -/
def parD (i j : Nat) (f g : Env → T AV) (ρ : Env) : T Out := (f ρ).bind fun a => (g ρ).bind fun b => (setV j b ρ).bind fun ρ1 => (setV i a ρ1).bind fun ρ2 => .ret (.nx ρ2)
theorem psd_par {i j : Nat} {x y : Str} {a b : Expr} {f g : Env → T AV} {px py pt : Pos} {kt k2 : Nat} {pt2 pos : Pos} (hc : X.calm = true) (hN : X.N.Nodup) (hi : X.N[i]? = some x) (hj : X.N[j]? = some y) (hij : i ≠ j)
    (hx : X.env.scope.names.lookup x = some .local) (hy : X.env.scope.names.lookup y = some .local) (ha : PD Tb B X a f) (hb : PD Tb B X b g)
    (hw : swappedStores [.Tuple [.Name x px, .Name y py] kt pt] (.Tuple [a, b] k2 pt2) X.env = pure (some [x, y]))
    (hs : swapsWithSole [.Tuple [.Name x px, .Name y py] kt pt] (.Tuple [a, b] k2 pt2) pos.line X.env = pure false := by rfl)
    (h1 : starEach [a, b] X.env = (false, eval a X.env) :: starEach [b] X.env := by rfl) (h2 : starEach [b] X.env = (false, eval b X.env) :: starEach [] X.env := by rfl) :
    PSD Tb B X (.Assign [.Tuple [.Name x px, .Name y py] kt pt] (.Tuple [a, b] k2 pt2) pos) (parD i j f g) := by
  refine PS.weaken (ps_par hc hN hi hj hij hx hy (pa_cons ha (pa_cons hb pa_nil h2) h1) hw hs) fun D σ H ⟨W, F, ρ, s, q⟩ => ?_
  refine ⟨W, F, ρ, s, (Hold.bind q).mono fun av z => rpost_of fun W1 H1 v F1 e1 g1 s1 => ?_⟩
  refine ⟨W1, F1, ρ, s1, (Hold.bind z).mono fun bv z => rpost_of fun W2 H2 w F2 e2 g2 s2 => ?_⟩
  refine ⟨v, w, rfl, ?_⟩
  obtain ⟨hb0, z⟩ := Hold.setV (Hold.bind z)
  obtain ⟨ha0, z⟩ := Hold.setV (Hold.bind z)
  have s3 := (s2.put (i := j) g2 hb0).put (i := i) (g1.ext e2) ha0
  rw [List.set_comm _ _ hij]
  exact z W2 _ H2 (e1.trans e2) s3
/-- target = e: what goes to a tuple of names is data -/
def asgD (g : PyData → Env → T Env) (f : Env → T AV) (ρ : Env) : T Out := ((f ρ).bind toS).bind fun d => (g d ρ).bind fun ρ' => .ret (.nx ρ')
theorem psd_asg {st : Stmt} {vs : List Nat} {g : PyData → Env → T Env} {f : Env → T AV} (h : PS X st (tAsg (rd X.K Tb B f) (rg X.K Tb B vs g))) : PSD Tb B X st (asgD g f) := PS.weaken h fun D σ H ⟨W, F, ρ, s, q⟩ =>
  ⟨W, F, ρ, s, (Hold.bind (Hold.bind q)).mono fun av z => RPost.shd (z.mono fun d z W1 H1 v e1 s1 hv => ⟨W1, F, ρ, d, s1, hv, (Hold.bind z).mono fun ρ' z W2 σ2 H2 e2 s2 _ => z W2 σ2 H2 (e1.trans e2) s2⟩)⟩
theorem psd_ret {e : Expr} {f : Env → T AV} {pos : Pos} (h : PD Tb B X e f) : PSD Tb B X (.Return (some e) pos) fun ρ => (f ρ).bind fun av => .ret (.rt av) := PS.weaken (ps_ret h) fun D σ H ⟨W, F, ρ, s, q⟩ =>
  ⟨W, F, ρ, s, (Hold.bind q).mono fun av z => by
    cases av with
    | own ds => exact fun W' H' a vs e hn s' hz hd => z W' H' a vs e hn s'.w hz hd
    | _ => exact fun W' H' v e s' hv => z W' H' v e s'.w hv⟩
/-- a slot's own list is handed back -/
theorem psd_expr {e : Expr} {f : Env → T AV} {pos : Pos} (h : PD Tb B X e f) (hs : swapsWith e none pos.line X.env = pure false := by rfl) : PSD Tb B X (.Expr e pos) fun ρ => (f ρ).bind fun _ => .ret (.nx ρ) := PS.weaken (ps_expr h hs) fun D σ H ⟨W, F, ρ, s, q⟩ =>
  ⟨W, F, ρ, s, (Hold.bind q).mono fun av z => rpost_of fun W' H' v F' e g s' => z W' σ H' e (s'.frame g.le)⟩
theorem psd_never {st : Stmt} : PSD Tb B X st fun _ => .err := PS.weaken ps_never fun D σ H ⟨W, F, ρ, s, q⟩ => q
theorem psd_pass {pos : Pos} : PSD Tb B X (.Pass pos) fun ρ => .ret (.nx ρ) := PS.weaken ps_pass fun D σ H ⟨W, F, ρ, s, q⟩ => q W σ H (Ext.refl _) s
theorem psd_break {pos : Pos} : PSD Tb B X (.Break pos) fun ρ => .ret (.bk ρ) := PS.weaken ps_break fun D σ H ⟨W, F, ρ, s, q⟩ => q W σ H (Ext.refl _) s
theorem psd_continue {pos : Pos} : PSD Tb B X (.Continue pos) fun ρ => .ret (.ct ρ) := PS.weaken ps_continue fun D σ H ⟨W, F, ρ, s, q⟩ => q W σ H (Ext.refl _) s
def ifD (c : Env → T Bool) (f g : Env → T Out) (ρ : Env) : T Out := (c ρ).bind fun b => if b = true then f ρ else g ρ
theorem psd_if {c : Expr} {a b : List Stmt} {fc : Env → T Bool} {f g : Env → T Out} {pos : Pos} (hc : PTD Tb B X c fc) (ha : PSsD Tb B X a f) (hb : PSsD Tb B X b g) : PSD Tb B X (.If c a b pos) (ifD fc f g) := PS.weaken (ps_if hc ha hb) fun D σ H ⟨W, F, ρ, s, q⟩ =>
  ⟨W, F, ρ, s, (Hold.bind q).mono fun b z W1 H1 e1 s1 => ite_c z (fun z => ⟨W1, F, ρ, s1, z.mono fun o z => OPost.ext e1 z⟩) fun z => ⟨W1, F, ρ, s1, z.mono fun o z => OPost.ext e1 z⟩⟩
/-! ### loops -/
def forItems (g : PyData → Env → T Env) (body : Env → T Out) : List PyData → Env → T Out
  | [], ρ => .ret (.nx ρ)
  | d :: ds, ρ => (g d ρ).bind fun ρ1 => (body ρ1).bind fun o => match o with
    | .nx ρ2 => forItems g body ds ρ2
    | .ct ρ2 => forItems g body ds ρ2
    | .bk ρ2 => .ret (.nx ρ2)
    | .rt av => .ret (.rt av)
def forD (it : Env → T (List PyData)) (g : PyData → Env → T Env) (body : Env → T Out) (ρ : Env) : T Out := (it ρ).bind fun ds => forItems g body ds ρ
theorem psd_for {tg iter : Expr} {body : List Stmt} {it : Env → T (List PyData)} {vs : List Nat} {g : PyData → Env → T Env} {f : Env → T Out} {pos : Pos} (hp : PassesOwn (model X.prog X.w) X.A X.env X.xe) (hc : X.calm = true) (hi : PID Tb B X tg iter it) (hg : PGD Tb B X tg vs g) (hb : PSsD Tb B X body f)
    (hs : ∀ x, foldedSetIterable iter X.env x = pure x := by intro _; rfl) : PSD Tb B X (.For tg iter body [] pos) (forD it g f) := by
  refine PS.weaken (ps_for hp hc hi.pi hg.pg hb hs) fun D σ H ⟨W, F, ρ, s, q⟩ => ⟨W, F, ρ, s, (Hold.bind q).mono fun ds z W1 H1 J e1 s1 dr => ?_⟩
  refine ⟨fun i m σ' H' => m = ds.length - i ∧ i ≤ ds.length ∧ ∃ W' ρ', Ext W1 W' ∧ Sim X.K Tb B W' F ρ' σ' H' ∧ Hold (forItems g f (ds.drop i) ρ') (OPost X.K Tb B W' F D), ⟨ds.length, rfl, Nat.zero_le _, W1, ρ, Ext.refl _, s1, by rw [List.drop_zero]; exact z.mono fun o z => OPost.ext e1 z⟩, ?_⟩
  rintro i m σ' H' ⟨rfl, hi', W', ρ', e', s', hq⟩
  by_cases hlt : i < ds.length
  · refine .inr ⟨dr.go i W' F H' hlt e' s'.w, fun σ'' H'' => ∃ W' ρ', Ext W1 W' ∧ Sim X.K Tb B W' F ρ' σ'' H'' ∧ Hold (forItems g f (ds.drop (i + 1)) ρ') (OPost X.K Tb B W' F D), fun σ'' H'' ⟨W'', ρ'', h1, h2, h3⟩ => ⟨ds.length - (i + 1), by omega, rfl, hlt, W'', ρ'', h1, h2, h3⟩, fun x H2 hy => ?_⟩
    have hd : ds[i]? = some ds[i] := List.getElem?_eq_getElem hlt
    obtain ⟨W2, e2, s2, hx⟩ := dr.yld i x H' H2 _ W' F ρ' σ' hd e' s' hy
    rw [List.drop_eq_getElem_cons hlt] at hq
    refine ⟨W2, F, ρ', _, s2, hx, (Hold.bind hq).mono fun ρ1 z W3 σ3 H3 e3 s3 _ => ⟨W3, F, ρ1, s3, (Hold.bind z).mono fun o z => ?_⟩⟩
    have e23 := e2.trans e3
    cases o with
    | nx ρ2 => exact fun W4 σ4 H4 e4 s4 => ⟨W4, ρ2, (e'.trans e23).trans e4, s4, z.mono fun o z => OPost.ext (e23.trans e4) z⟩
    | ct ρ2 => exact fun W4 σ4 H4 e4 s4 => ⟨W4, ρ2, (e'.trans e23).trans e4, s4, z.mono fun o z => OPost.ext (e23.trans e4) z⟩
    | bk ρ2 => exact fun W4 σ4 H4 e4 s4 => z W4 σ4 H4 (e23.trans e4) s4
    | rt av =>
      have z := OPost.ext (o := .rt av) e23 z
      cases av <;> exact z
  · have e : i = ds.length := by omega
    subst e
    rw [List.drop_length] at hq
    exact .inl ⟨dr.stop W' F H' e' s'.w, hq W' σ' H' (Ext.refl _) s'⟩
/-- while: so many turns at most -/
def whileN (is : List Nat) (c : Env → T Bool) (body : Env → T Out) : Nat → Env → T Out
  | 0, _ => .err
  | n + 1, ρ => (c (share is ρ)).bind fun b => if b = true then (body (share is ρ)).bind fun o => match o with
      | .nx ρ2 => whileN is c body n ρ2
      | .ct ρ2 => whileN is c body n ρ2
      | .bk ρ2 => .ret (.nx ρ2)
      | .rt av => .ret (.rt av)
    else .ret (.nx (share is ρ))
theorem psd_while {c : Expr} {body : List Stmt} {fc : Env → T Bool} {f : Env → T Out} {pos : Pos} (is : List Nat) (n : Nat) (hp : PassesOwn (model X.prog X.w) X.A X.env X.xe) (hc : PTD Tb B X c fc) (hb : PSsD Tb B X body f) : PSD Tb B X (.While c body [] pos) (whileN is fc f n) := by
  refine PS.weaken (ps_while hp hc hb) fun D σ H ⟨W, F, ρ, s, q⟩ => ?_
  refine ⟨fun m σ' H' => ∃ W' ρ', Ext W W' ∧ Sim X.K Tb B W' F ρ' σ' H' ∧ Hold (whileN is fc f m ρ') (OPost X.K Tb B W' F D), ⟨n, W, ρ, Ext.refl _, s, q⟩, ?_⟩
  rintro m σ' H' ⟨W', ρ', e', s', hq⟩
  cases m with
  | zero => exact hq.elim
  | succ m =>
    refine ptd_share is hc _ _ _ ⟨W', F, ρ', s', (Hold.bind hq).mono fun b z W1 H1 e1 s1 => ite_c z (fun z => ?_) fun z => ?_⟩
    · refine ⟨fun σ'' H'' => ∃ W' ρ', Ext W W' ∧ Sim X.K Tb B W' F ρ' σ'' H'' ∧ Hold (whileN is fc f m ρ') (OPost X.K Tb B W' F D), fun σ'' H'' h => ⟨m, Nat.lt_succ_self m, h⟩, W1, F, _, s1, (Hold.bind z).mono fun o z => ?_⟩
      cases o with
      | nx ρ2 => exact fun W4 σ4 H4 e4 s4 => ⟨W4, ρ2, (e'.trans e1).trans e4, s4, z.mono fun o z => OPost.ext (e1.trans e4) z⟩
      | ct ρ2 => exact fun W4 σ4 H4 e4 s4 => ⟨W4, ρ2, (e'.trans e1).trans e4, s4, z.mono fun o z => OPost.ext (e1.trans e4) z⟩
      | bk ρ2 => exact fun W4 σ4 H4 e4 s4 => z W4 σ4 H4 (e1.trans e4) s4
      | rt av =>
        have z := OPost.ext (o := .rt av) e1 z
        cases av <;> exact z
    · exact z W1 σ' H1 e1 s1
/-! ### a def -/
def runD (n N : Nat) (body : Env → T Out) (as : List AV) : T AV := (body (as ++ List.replicate (N - n) .no)).bind fun o => match o with
  | .rt av => .ret av
  | .nx _ => .ret (.sh .none)
  | _ => .err
theorem VAll.len {K : PySem.W.Frag} {W : Wd} {vs : List V} {as : List AV} (h : VAll K B W vs as) : vs.length = as.length := by
  induction h with
  | nil => rfl
  | cons _ _ ih => rw [List.length_cons, List.length_cons, ih]
theorem VAll.get {K : PySem.W.Frag} {W : Wd} : ∀ {vs : List V} {as : List AV} {i : Nat} {av : AV}, VAll K B W vs as → as[i]? = some av → ∃ v, vs[i]? = some v ∧ VOk K B W v av
  | _, [], i, av, h, e => by simp at e
  | _, _ :: as, 0, av, h, e => by
    cases h with
    | cons h1 h2 =>
      simp at e
      subst e
      exact ⟨_, rfl, h1⟩
  | _, _ :: as, i + 1, av, h, e => by
    cases h with
    | cons h1 h2 => exact VAll.get (i := i) h2 (by simpa using e)
theorem sim_start {K : PySem.W.Frag} {W : Wd} {F H : Hp} {N : List Str} {vs : List V} {as : List AV} (w : WOk Tb W F H) (h : VAll K B W vs as) (hN : as.length ≤ N.length) : Sim K Tb B W F (as ++ List.replicate (N.length - as.length) .no) (L2.start N vs) H := by
  have hl := h.len
  have key : ∀ {i : Nat} {av : AV}, (as ++ List.replicate (N.length - as.length) AV.no)[i]? = some av → av ≠ .no → as[i]? = some av := fun {i av} e hn => by
    by_cases hi : i < as.length
    · rw [List.getElem?_append_left hi] at e; exact e
    · rw [List.getElem?_append_right (by omega), List.getElem?_replicate] at e
      split at e
      · exact absurd (Option.some.inj e).symm hn
      · cases e
  refine ⟨w, ⟨by simp [L2.start]; omega, fun i av h1 h2 h3 => ?_, fun i ds e => ?_, fun i j ds es a _ e _ _ => ?_⟩⟩
  · obtain ⟨v, q1, q2⟩ := VAll.get h (key h1 h2)
    refine ⟨v, ?_, q2⟩
    unfold L2.start
    rw [List.getElem?_append_left (by rw [List.length_map]; exact lt_of_get q1), List.getElem?_map, q1]
    rfl
  · have q := key e (by intro z; cases z)
    exact absurd rfl (VAll.noown h _ (List.mem_of_getElem? q) ds)
  · have q := key e (by intro z; cases z)
    exact absurd rfl (VAll.noown h _ (List.mem_of_getElem? q) ds)
theorem run_read {K : PySem.W.Frag} {N : List Str} {n : Nat} {body : Env → T Out} (hn : n ≤ N.length) {vs : List V} {H : Hp} {Q : VK} {E : XK} (h : spD K Tb B n (runD n N.length body) vs H Q E) : rs K Tb B body { nx := fun _ H' => Q .non H', rt := Q } (L2.start N vs) H := by
  obtain ⟨W, F, as, w, hv, hl, q⟩ := h
  subst hl
  refine ⟨W, F, _, sim_start w hv hn, (Hold.bind q).mono fun o z => ?_⟩
  cases o with
  | rt av => cases av <;> exact z
  | nx ρ => exact fun W' σ' H' e s => z W' H' .non e s.w .non
  | bk ρ => exact z.elim
  | ct ρ => exact z.elim
theorem sp_len {K : PySem.W.Frag} {ps : List Str} {n : Nat} {f : List AV → T AV} (hn : ps.length = n) : ∀ (vs : List V) (H : Hp) (Q : VK) (E : XK), spD K Tb B n f vs H Q E → vs.length = ps.length := fun vs H Q E ⟨_, _, as, _, hv, hl, _⟩ => by rw [hv.len, hl, hn]
/-- THE RULE of a def -/
theorem fn_d {P : Program} {w : World} {K : PySem.W.Frag} {mg : Str → Option Value} {base : Heap} {x qual : Str} {params : Arguments} {bd : List Stmt} {scope : Scope} {f : Addr} {fd : FuncData} {N ps : List Str} {k n : Nat} {body : Env → T Out}
    (F : FunD K x qual params bd scope [] [] f fd) (S : FnScope N ps scope) (hn : ps.length = n) (hN : n ≤ N.length)
    (h : ∀ (cdv : Value) (A : Around) (outer : List PySem.Env) (s : Shared) (H : Hp), Room k (A.deeper (envOfC qual scope s.heap.objs.size f cdv)) → PSsD Tb B ((cxOf CX0 P w K mg base N qual scope f cdv A outer s H E0).nox) bd body) :
    FnOk P w K mg base CX0 (k + 1) f fd ps (spD K Tb B n (runD n N.length body)) := by
  refine F.ok S (sp_len hn) fun cdv A outer s H vs Q E hr hs => ⟨_, PSs.nox (?_ : PSs _ bd (rs K Tb B body)), run_read hN hs⟩
  have q := h cdv A outer s H hr
  exact ⟨fun pins s' σ H' D I hw => q.run pins s' σ H' D ⟨⟨I.ok.mod, I.ok.kind, I.ok.glob, I.ok.blt, I.ok.above, I.ok.inj, I.ok.has, I.ok.cab, I.ok.hd, I.ok.frames, I.ok.stk, I.ok.exf, I.ok.bs, I.ok.bsz, I.ok.noex, I.ok.exfs, I.ok.funs, I.ok.frf⟩, I.os, I.bare, I.base, I.loc, I.cell, I.free, I.freeC, I.pin, I.hok, I.len⟩ hw⟩
end
end Dn
end
section
set_option Elab.async false
set_option linter.all false
set_option autoImplicit false
set_option maxRecDepth 100000
/-! Dn4: defs and their calls, where no repr is under way. -/
namespace Dn
open PySem PySem.Spec PyProof.Rows L2 LamX

/-- the def st of the text, by its name x: called with room k while no repr is under way it does d -/
structure FnG (P : Program) (w : World) (K : PySem.W.Frag) (mg : Str → Option Value) (base : Heap) (Tb : List (Addr × Str)) (B : Wd → V → (List PyData → T PyData) → Prop) (x : Str) (st : Stmt) (ps : List Str) (k : Nat) (d : List AV → T AV) : Prop where
  ex : ∃ fd : FuncData, FunD K x x (defArgs st) (defBody st) (defScope st) [] [] (He.ga K x) fd ∧ Binds K fd ps [] ∧ mg x = some (.ref (He.ga K x)) ∧
    ∀ (A : Around) (outer : List PySem.Env) (s : Shared) (H : Hp) (args : Args) (us : List Value) (vs : List V) (Q : VK), Room k A → A.guards = some [] → Env0 P w K mg base A outer s H → BindsTo s fd args (ps.zip us) → Vals vs us → spD K Tb B ps.length d vs H Q E0 →
      codeAny (model P w) A (.call (.ref (He.ga K x)) args) (CR CX0 outer P w H s Q E0) s
section
variable {P : Program} {w : World} {K : PySem.W.Frag} {mg : Str → Option Value} {base : Heap} {Tb : List (Addr × Str)} {B : Wd → V → (List PyData → T PyData) → Prop}
theorem FnG.mono {x : Str} {st : Stmt} {ps : List Str} {j k : Nat} {d : List AV → T AV} (G : FnG P w K mg base Tb B x st ps j d) (h : j ≤ k) : FnG P w K mg base Tb B x st ps k d :=
  let ⟨fd, h1, h2, h3, h4⟩ := G.ex
  ⟨fd, h1, h2, h3, fun A outer s H args us vs Q hr => h4 A outer s H args us vs Q (hr.mono h)⟩
/-- the context of a def's body -/
abbrev CxD (P : Program) (w : World) (K : PySem.W.Frag) (mg : Str → Option Value) (base : Heap) (N : List Str) (x : Str) (st : Stmt) (f : Addr) (cdv : Value) (A : Around) (outer : List PySem.Env) (s : Shared) (H : Hp) : Cx := (cxOf CX0 P w K mg base N x (defScope st) f cdv A outer s H E0).nox
/-- THE RULE of a def -/
theorem fn_g {x : Str} {st : Stmt} {N ps : List Str} {k : Nat} {body : Env → T Out} {fd : FuncData}
    (F : FunD K x x (defArgs st) (defBody st) (defScope st) [] [] (He.ga K x) fd) (S : FnScope N ps (defScope st)) (hm : mg x = some (.ref (He.ga K x))) (hN : ps.length ≤ N.length)
    (hb : ∀ (kV doc pm : Value) (an : Option Addr) (cdv ct : Value) (us : List Value), us.length = ps.length → bindArgs (PySem.W.fnOf x x (defArgs st) (defBody st) (defScope st) .none kV doc pm an cdv ct) ⟨us, []⟩ = pure (ps.zip us))
    (h : ∀ (cdv : Value) (A : Around) (outer : List PySem.Env) (s : Shared) (H : Hp), Room k (CxD P w K mg base N x st (He.ga K x) cdv A outer s H).A → (CxD P w K mg base N x st (He.ga K x) cdv A outer s H).A.guards = some [] → PSsD Tb B (CxD P w K mg base N x st (He.ga K x) cdv A outer s H) (defBody st) body) :
    FnG P w K mg base Tb B x st ps (k + 1) (runD ps.length N.length body) := by
  refine ⟨fd, F, F.bindsN hb, hm, fun A outer s H args us vs Q hr hg e0 hbt r hs => ?_⟩
  obtain ⟨oc, od, dV, kV, doc, pm, an, cdv, ct, osl, rfl, lk, hcd, _, _⟩ := F.ex
  refine run_ofS lk hcd S hr e0 hbt r (sp_len rfl vs H Q E0 hs) fun hr' => ⟨_, PSs.nox (h cdv A outer s H hr' hg), run_read hN hs⟩
theorem room200 {k : Nat} {A : Around} (hr : Room k A) : A.units + 200 < cLine := by
  have := hr.un
  omega
end
section
variable {Tb : List (Addr × Str)} {B : Wd → V → (List PyData → T PyData) → Prop} {X : Cx}
/-- behind a run -/
theorem run_back {pins : List (Addr × Obj)} {σ : L2.St} {H : Hp} {s : Shared} {Q : VK} {f : Value} {us : List Value} {kw : List (Str × Value)} {a : Addr} (I : Inv X pins σ H s) (h : codeAny (model X.prog X.w) X.A (.call (.ref a) ⟨us, kw⟩) (CR CX0 X.stack X.prog X.w H s Q E0) s) :
    wpAny (model X.prog X.w) X.A (call (.ref a) us kw) (EP X pins σ Q) X.xe s := by
  refine wpAny_call (codeAny_mono h fun r s' hq => ?_)
  cases r with
  | error e => exact False.elim hq
  | ok fl => cases fl with
    | ret u => exact I.after hq
    | _ => exact False.elim hq
theorem pg_call {k n : Nat} {x : Str} {st : Stmt} {ps : List Str} {d : List AV → T AV} {p pos : Pos} {e : Expr} {es : List Expr} {g : Env → T (List AV)}
    (G : FnG X.prog X.w X.K X.mg X.base Tb B x st ps k d) (hr : Room k X.A) (hgd : X.A.guards = some []) (hg : Gl X x) (ha : PAD Tb B X (e :: es) g)
    (hdb : (x == ("__debug__" : Str)) = false := by decide) (he : starEach (e :: es) X.env = (false, eval e X.env) :: starEach es X.env := by rfl) (hpl : (backTo pos (starEach es X.env)).any (·.1) = false := by rfl) (hnn : ps.length = n := by rfl) :
    PD Tb B X (.Call (.Name x p) (e :: es) [] pos) fun ρ => (g ρ).bind (calling n d) := by
  subst hnn
  obtain ⟨fd, F, hb, hm, run⟩ := G.ex
  have h : PE X (.Call (.Name x p) (e :: es) [] pos) (tCall (spD X.K Tb B ps.length d) [] E0 (ra X.K Tb B g)) := by
    refine ⟨fun pins s σ H Q I h => ?_⟩
    refine wpAny_Call_Name_kw (ld_glob I hg hm ?_ hdb)
    refine PySem.W.callWith_K (h₀ := X.base) I.ok.mod.kin F.kp (thn (ha.run pos pins s σ H _ I h) fun us s1 ⟨vs, H1, I1, r, q⟩ => ⟨I1.kIn, ?_⟩) he hpl
    have q : spD X.K Tb B ps.length d (vs ++ []) H1 Q E0 := q
    rw [List.append_nil] at q
    have hl : (us ++ []).length = ps.length := by rw [List.append_nil, ← r.length]; exact sp_len rfl vs H1 Q E0 q
    have bt := hb s1 us I1.kIn hl
    rw [List.append_nil] at bt
    exact run_back (f := .none) I1 (run X.A X.stack s1 H1 ⟨us, []⟩ us vs Q hr hgd I1.env0 bt r q)
  refine PE.weaken h fun σ H Q ⟨W, F', ρ, s, q⟩ => ⟨W, F', ρ, s, (Hold.bind q).mono fun as z => fun W1 H1 vs e1 s1 hv => ?_⟩
  obtain ⟨hn, z⟩ := hold_if z
  rw [List.append_nil]
  exact sp_use e1 s1 hv hn z
/-- arguments put in order by places -/
def pick {α : Type} (pm : List Nat) (l : List α) : List α := pm.filterMap fun i => l[i]?
theorem pick_vals : ∀ {pm : List Nat} {vs : List V} {us : List Value}, Vals vs us → Vals (pick pm vs) (pick pm us)
  | [], _, _, _ => .nil
  | i :: pm, vs, us, r => by
    unfold pick
    rw [List.filterMap_cons, List.filterMap_cons]
    cases e : vs[i]? with
    | none =>
      rw [r.none_of e]
      exact pick_vals r
    | some v =>
      obtain ⟨u, hu, ru⟩ := r.get e
      rw [hu]
      exact .cons ru (pick_vals r)
theorem VAll.none_of {K : PySem.W.Frag} {W : Wd} {vs : List V} {as : List AV} (h : VAll K B W vs as) {i : Nat} (e : as[i]? = none) : vs[i]? = none := by
  rw [List.getElem?_eq_none_iff] at e ⊢
  rw [h.len]; exact e
theorem pick_all {K : PySem.W.Frag} {W : Wd} : ∀ {pm : List Nat} {vs : List V} {as : List AV}, VAll K B W vs as → VAll K B W (pick pm vs) (pick pm as)
  | [], _, _, _ => .nil
  | i :: pm, vs, as, r => by
    unfold pick
    rw [List.filterMap_cons, List.filterMap_cons]
    cases e : as[i]? with
    | none =>
      rw [r.none_of e]
      exact pick_all r
    | some a =>
      obtain ⟨v, hv, hva⟩ := VAll.get r e
      rw [hv]
      exact .cons hva (pick_all r)
theorem VAll.extAll {K : PySem.W.Frag} {W W' : Wd} {vs : List V} {as : List AV} (h : VAll K B W vs as) (e : Ext W W') : VAll K B W' vs as := VAll.ext e h
theorem VAll.append {K : PySem.W.Frag} {W : Wd} {vs vs' : List V} {as as' : List AV} (h : VAll K B W vs as) (h' : VAll K B W vs' as') : VAll K B W (vs ++ vs') (as ++ as') := by
  induction h with
  | nil => exact h'
  | cons h1 _ ih => exact .cons h1 ih
abbrev PKD (Tb : List (Addr × Str)) (B : Wd → V → (List PyData → T PyData) → Prop) (X : Cx) (kws : List Keyword) (den : Env → T (List AV)) : Prop := PK X kws (ra X.K Tb B den)
theorem pkd_nil : PKD Tb B X [] fun _ => .ret [] := ⟨fun pos pins s σ H Q I ⟨W, F, ρ, sm, q⟩ => pk_nil.run pos pins s σ H Q I (q W H [] (Ext.refl W) sm .nil)⟩
theorem cons_read {K : PySem.W.Frag} {f : Env → T AV} {g : Env → T (List AV)} {σ : L2.St} {H : Hp} {Q : List V → Hp → Prop} (h : ra K Tb B (fun ρ => (f ρ).bind fun a => (g ρ).bind fun as => .ret (frz a :: as)) σ H Q) : tCons (rd K Tb B f) (ra K Tb B g) σ H Q := by
  obtain ⟨W, F, ρ, s, q⟩ := h
  refine ⟨W, F, ρ, s, (Hold.bind q).mono fun av z => RPost.frz ?_⟩
  have key : ∀ aw : AV, aw = frz av → RPost K Tb B W F ρ σ (fun x H1 => ra K Tb B g σ H1 fun xs H2 => Q (x :: xs) H2) aw := by
    intro aw haw
    have nown : ∀ ds, aw ≠ .own ds := fun ds e => by cases av <;> simp [frz] at haw <;> subst haw <;> cases e
    have main : ∀ W' H' v, Ext W W' → Sim K Tb B W' F ρ σ H' → VOk K B W' v aw → ra K Tb B g σ H' fun xs H2 => Q (v :: xs) H2 := fun W1 H1 v e1 s1 hv =>
      ⟨W1, F, ρ, s1, (Hold.bind z).mono fun as z2 => fun W2 H2 vs e2 s2 hvs => z2 W2 H2 (v :: vs) (e1.trans e2) s2 (haw ▸ .cons (hv.ext e2) hvs)⟩
    cases aw with
    | own ds => exact absurd rfl (nown ds)
    | _ => exact main
  exact key _ rfl
theorem pkd_cons {kpos : Pos} {e : Expr} {kws : List Keyword} {nm : Option Str} {f : Env → T AV} {g : Env → T (List AV)} (he : PD Tb B X e f) (hk : PKD Tb B X kws g) : PKD Tb B X (⟨nm, e, kpos⟩ :: kws) fun ρ => (f ρ).bind fun a => (g ρ).bind fun as => .ret (frz a :: as) :=
  ⟨fun pos pins s σ H Q I h => (pk_cons he hk).run pos pins s σ H Q I (cons_read h)⟩
/-- what stands behind: the arguments in order -/
def readK (K : PySem.W.Frag) (d : List AV → T AV) (n : Nat) (pm : List Nat) (g gk : Env → T (List AV)) (σ : L2.St) (H : Hp) (Q : VK) : Prop :=
  ra K Tb B g σ H fun vs H1 => ra K Tb B gk σ H1 fun zs H2 => spD K Tb B n d (pick pm (vs ++ zs)) H2 Q E0
theorem readK_of {K : PySem.W.Frag} {d : List AV → T AV} {n : Nat} {pm : List Nat} {g gk : Env → T (List AV)} {σ : L2.St} {H : Hp} {Q : VK} (h : rd K Tb B (fun ρ => (g ρ).bind fun as => (gk ρ).bind fun zs => calling n d (pick pm (as ++ zs))) σ H Q) : readK (Tb := Tb) (B := B) K d n pm g gk σ H Q := by
  obtain ⟨W, F, ρ, s, q⟩ := h
  refine ⟨W, F, ρ, s, (Hold.bind q).mono fun as z => fun W1 H1 vs e1 s1 hv => ⟨W1, F, ρ, s1, (Hold.bind z).mono fun zs z => fun W2 H2 ws e2 s2 hw => ?_⟩⟩
  obtain ⟨hn, z⟩ := hold_if z
  have hall : VAll K B W2 (vs ++ ws) (as ++ zs) := VAll.append (hv.extAll e2) hw
  refine ⟨W2, pack ρ σ F H2, pick pm (as ++ zs), s2.packed, pick_all hall, hn, z.mono fun av z => ?_⟩
  cases av with
  | own ds =>
    intro W3 H3 a xs e3 hpn w hz hd
    obtain ⟨hF, s3⟩ := s2.backOwn e3 hpn w
    exact z W3 H3 a xs ((e1.trans e2).trans e3) hF s3 hz hd
  | _ => exact fun W3 H3 v e3 w hv => z W3 H3 v ((e1.trans e2).trans e3) (s2.back e3 w) hv
/-- f(e, .., k = v, ..): pm puts the written ones, then those by name in the parameters' order -/
theorem pg_callK {k n : Nat} {x : Str} {st : Stmt} {ps ks : List Str} {d : List AV → T AV} {p pos : Pos} {e : Expr} {es : List Expr} {kws : List Keyword} {g gk : Env → T (List AV)} (pm : List Nat)
    (G : FnG X.prog X.w X.K X.mg X.base Tb B x st ps k d) (hr : Room k X.A) (hgd : X.A.guards = some []) (hg : Gl X x)
    (hb : ∀ (kV doc pv : Value) (an : Option Addr) (cdv ct : Value) (us ws : List Value), (pick pm (us ++ ws)).length = ps.length → bindArgs (PySem.W.fnOf x x (defArgs st) (defBody st) (defScope st) .none kV doc pv an cdv ct) ⟨us, ks.zip ws⟩ = pure (ps.zip (pick pm (us ++ ws))))
    (ha : PAD Tb B X (e :: es) g) (hk : PKD Tb B X kws gk) (hall : (backToKw pos (keywordEach kws X.env)).all (·.1.isSome) = true := by rfl) (hks : (backToKw pos (keywordEach kws X.env)).filterMap (·.1) = ks := by rfl)
    (hdb : (x == ("__debug__" : Str)) = false := by decide) (he : starEach (e :: es) X.env = (false, eval e X.env) :: starEach es X.env := by rfl)
    (hpl : ((backTo pos (starEach (e :: es) X.env)).any (·.1) || (backToKw pos (keywordEach kws X.env)).any (·.1.isNone)) = false := by rfl) (hnn : ps.length = n := by rfl) :
    PD Tb B X (.Call (.Name x p) (e :: es) kws pos) fun ρ => (g ρ).bind fun as => (gk ρ).bind fun zs => calling n d (pick pm (as ++ zs)) := by
  subst hnn
  obtain ⟨fd, F, _, hm, run⟩ := G.ex
  obtain ⟨oc, od, dV, kV, doc, pv, an, cdv, ct, osl, rfl, lk, hcd, hD, _⟩ := id F.ex
  obtain rfl : dV = Value.none := by
    rcases hD with ⟨_, h⟩ | ⟨h, _⟩
    · exact h
    · exact absurd rfl h
  refine ⟨fun pins s σ H Q I h => ?_⟩
  refine wpAny_Call_Name_kw (ld_glob I hg hm ?_ hdb)
  refine PySem.W.callWith_KW (h₀ := X.base) I.ok.mod.kin F.kp hall (thn (ha.run pos pins s σ H _ I (readK_of h)) fun us s1 ⟨vs, H1, I1, r, q⟩ => ?_) hpl he
  refine thn (hk.run pos pins s1 σ H1 _ I1 q) fun ws s2 ⟨zs, H2, I2, rz, q2⟩ => ⟨I2.kIn, ?_⟩
  rw [hks]
  have rr : Vals (pick pm (vs ++ zs)) (pick pm (us ++ ws)) := pick_vals (r.append rz)
  have hl : (pick pm (us ++ ws)).length = ps.length := by rw [← rr.length]; exact sp_len rfl _ H2 Q E0 q2
  exact run_back (f := .none) I2 (run X.A X.stack s2 H2 ⟨us, ks.zip ws⟩ _ _ Q hr hgd I2.env0 (.of_eq (hb kV doc pv an cdv ct us ws hl)) rr q2)
theorem pg_callK0 {k n : Nat} {x : Str} {st : Stmt} {ps ks : List Str} {d : List AV → T AV} {p pos : Pos} {kws : List Keyword} {gk : Env → T (List AV)} (pm : List Nat)
    (G : FnG X.prog X.w X.K X.mg X.base Tb B x st ps k d) (hr : Room k X.A) (hgd : X.A.guards = some []) (hg : Gl X x)
    (hb : ∀ (kV doc pv : Value) (an : Option Addr) (cdv ct : Value) (us ws : List Value), (pick pm (us ++ ws)).length = ps.length → us = [] → bindArgs (PySem.W.fnOf x x (defArgs st) (defBody st) (defScope st) .none kV doc pv an cdv ct) ⟨us, ks.zip ws⟩ = pure (ps.zip (pick pm (us ++ ws))))
    (hk : PKD Tb B X kws gk) (hall : (backToKw pos (keywordEach kws X.env)).all (·.1.isSome) = true := by rfl) (hks : (backToKw pos (keywordEach kws X.env)).filterMap (·.1) = ks := by rfl)
    (hdb : (x == ("__debug__" : Str)) = false := by decide)
    (hpl : ((backTo pos (starEach [] X.env)).any (·.1) || (backToKw pos (keywordEach kws X.env)).any (·.1.isNone)) = false := by rfl) (hnn : ps.length = n := by rfl) :
    PD Tb B X (.Call (.Name x p) [] kws pos) fun ρ => (gk ρ).bind fun zs => calling n d (pick pm zs) := by
  subst hnn
  obtain ⟨fd, F, _, hm, run⟩ := G.ex
  obtain ⟨oc, od, dV, kV, doc, pv, an, cdv, ct, osl, rfl, lk, hcd, hD, _⟩ := id F.ex
  obtain rfl : dV = Value.none := by
    rcases hD with ⟨_, h⟩ | ⟨h, _⟩
    · exact h
    · exact absurd rfl h
  refine ⟨fun pins s σ H Q I ⟨W, F', ρ, sm, q⟩ => ?_⟩
  refine wpAny_Call_Name_kw (ld_glob I hg hm ?_ hdb)
  refine PySem.W.callWith_KW0 (h₀ := X.base) I.ok.mod.kin F.kp hall ?_ hpl
  have h1 : ra X.K Tb B gk σ H fun zs H2 => spD X.K Tb B ps.length d (pick pm zs) H2 Q E0 := ⟨W, F', ρ, sm, (Hold.bind q).mono fun zs z => fun W2 H2 ws e2 s2 hw => by
    obtain ⟨hn, z⟩ := hold_if z
    exact sp_use e2 s2 (pick_all hw) hn z⟩
  refine thn (hk.run pos pins s σ H _ I h1) fun ws s2 ⟨zs, H2, I2, rz, q2⟩ => ⟨I2.kIn, ?_⟩
  rw [hks]
  have rr : Vals (pick pm zs) (pick pm ws) := pick_vals rz
  have hl : (pick pm ws).length = ps.length := by rw [← rr.length]; exact sp_len rfl _ H2 Q E0 q2
  have b := hb kV doc pv an cdv ct [] ws (by rw [List.nil_append]; exact hl) rfl
  rw [List.nil_append] at b
  exact run_back (f := .none) I2 (run X.A X.stack s2 H2 ⟨[], ks.zip ws⟩ _ _ Q hr hgd I2.env0 (.of_eq b) rr q2)
end
end Dn
end
section
set_option Elab.async false
set_option linter.all false
set_option autoImplicit false
set_option maxRecDepth 100000
/-! Dn5: operators and built-ins by what they do to data. -/
namespace Dn
open PySem PySem.Spec PyProof.Rows L2 LamX

section
variable {Tb : List (Addr × Str)} {B : Wd → V → (List PyData → T PyData) → Prop} {X : Cx}
theorem OpOk.or {K : PySem.W.Frag} {r r' : R2} {f : PyData → PyData → T AV} (p : PyData → PyData → Bool)
    (h : ∀ W F ρ σ H x y d e Q, p d e = true → Sim K Tb B W F ρ σ H → Rb K W H x d → Rb K W H y e → Hold (f d e) (RPost K Tb B W F ρ σ Q) → r x y H Q)
    (h' : ∀ W F ρ σ H x y d e Q, p d e = false → Sim K Tb B W F ρ σ H → Rb K W H x d → Rb K W H y e → Hold (f d e) (RPost K Tb B W F ρ σ Q) → r' x y H Q) : OpOk Tb B K (fun x y H Q => r x y H Q ∨ r' x y H Q) f :=
  fun W F ρ σ H x y d e Q s a b q => by
    cases c : p d e with
    | true => exact .inl (h W F ρ σ H x y d e Q c s a b q)
    | false => exact .inr (h' W F ρ σ H x y d e Q c s a b q)
def isInt2 : PyData → PyData → Bool
  | .int _, .int _ => true
  | _, _ => false
theorem Rb.int {K : PySem.W.Frag} {W : Wd} {H : Hp} {x : V} {i : Int} (h : Rb K W H x (.int i)) : x = .int i := by cases h; rfl
theorem Rb.bool {K : PySem.W.Frag} {W : Wd} {H : Hp} {x : V} {i : Bool} (h : Rb K W H x (.bool i)) : x = .bl i := by cases h; rfl
theorem Rb.list {K : PySem.W.Frag} {W : Wd} {H : Hp} {x : V} {ds : List PyData} (h : Rb K W H x (.list ds)) : ∃ a vs, x = .ref a ∧ SqL K H a vs ∧ vs.length ≤ sizeLine ∧ DpAll K W.Φ vs ds := h
theorem Rb.tup {K : PySem.W.Frag} {W : Wd} {F H : Hp} {x : V} {ds : List PyData} (w : WOk Tb W F H) (h : Rb K W H x (.tuple ds)) : ∃ a vs, x = .ref a ∧ SqT K W.Φ a vs ∧ SqT K H a vs ∧ vs.length ≤ sizeLine ∧ DpAll K W.Φ vs ds := by
  cases h with
  | tup hs ha => exact ⟨_, _, rfl, hs, sqT_le w.fz hs, sqT_sz w hs, ha⟩
/-- a new tuple of known things -/
theorem Sim.mkT {K : PySem.W.Frag} {W : Wd} {F H : Hp} {ρ : Env} {σ : L2.St} {Q : VK} {vs : List V} {ds : List PyData} (s : Sim K Tb B W F ρ σ H) (hd : DpAll K W.Φ vs ds) (hz : vs.length ≤ sizeLine) (q : RPost K Tb B W F ρ σ Q (.sh (.tuple ds))) : ∀ p, H p = none → Q (.ref p) (upd H p (.tup vs)) := fun p hp => by
  obtain ⟨W2, e2, s2, h2⟩ := s.made (o := .tup vs) hp (by intro ps z; cases z) (by rintro xs (e | e | ⟨_, e⟩ | ⟨_, e⟩) <;> cases e; exact hz)
  exact q W2 _ (.ref p) e2 s2 (.tup (.inl (.inl h2)) (dpAll_le e2.φ _ _ hd))
theorem Sim.mkL {K : PySem.W.Frag} {W : Wd} {F H : Hp} {ρ : Env} {σ : L2.St} {Q : VK} {vs : List V} {ds : List PyData} (s : Sim K Tb B W F ρ σ H) (hd : DpAll K W.Φ vs ds) (hz : vs.length ≤ sizeLine) (q : RPost K Tb B W F ρ σ Q (.own ds)) : ∀ p, H p = none → Q (.ref p) (upd H p (.lst vs)) := fun p hp => by
  obtain ⟨hF, s2⟩ := s.new (vs := vs) hp
  exact q W _ p vs (Ext.refl _) hF s2 hz hd
theorem DpAll.nil_iff {K : PySem.W.Frag} {H : Hp} {vs : List V} {ds : List PyData} (h : DpAll K H vs ds) : vs = [] ↔ ds = [] := by
  cases h with
  | nil => simp
  | cons _ _ => simp
/-! ### + -/
def addD : PyData → PyData → T AV
  | .int i, .int j => .ret (.sh (.int (i + j)))
  | .tuple xs, .tuple ys => if xs.length + ys.length ≤ 1000000 then .ret (.sh (.tuple (xs ++ ys))) else .err
  | .list xs, .list ys => if xs.length + ys.length ≤ 1000000 then .ret (.own (xs ++ ys)) else .err
  | _, _ => .err
theorem line1M {n : Nat} (h : n ≤ 1000000) : n ≤ sizeLine := Nat.le_trans h (by decide)
def rCatL (K : PySem.W.Frag) : R2 := fun x y H Q => ∃ l b xs zs, x = .ref l ∧ y = .ref b ∧ SqL K H l xs ∧ SqL K H b zs ∧ xs.length + zs.length ≤ sizeLine ∧ ∀ p, H p = none → Q (.ref p) (upd H p (.lst (xs ++ zs)))
theorem Inv.fresh' {pins : List (Addr × Obj)} {σ : L2.St} {H : Hp} {s : Shared} (I : Inv X pins σ H s) : H s.heap.objs.size = none := I.hok.fresh (Nat.le_refl _)
/-- a new list laid -/
theorem Inv.newL {pins : List (Addr × Obj)} {σ : L2.St} {H : Hp} {s : Shared} {vs : List V} {its : List Value} (I : Inv X pins σ H s) (r : Vals vs its) (hz : vs.length ≤ sizeLine) :
    Inv X pins σ (upd H s.heap.objs.size (.lst vs)) { s with heap := s.heap.push { cls := .type "list", data := .seq its.toArray } } :=
  Inv.laid (t' := s.toks) I (fun b o e => Heap.get?_push_of_some _ e) (Nat.le_refl _) ⟨hz, its, 0, r, Heap.get?_push_size _ rfl⟩
theorem op_catL : OpR X (binaryOp .Add) (rCatL X.K) := by
  intro pins s σ H x y v u Q I rx ry h
  obtain ⟨l, b, xs, zs, rfl, rfl, hl, hb, hz, q⟩ := h
  cases rx
  cases ry
  obtain ⟨its, r, ⟨⟨c1, dd1, dt1, sl1⟩, n1, e1, hc1, hd1, ht1⟩, _⟩ := I.list hl
  obtain ⟨its2, r2, ⟨⟨c2, dd2, dt2, sl2⟩, n2, e2, hc2, hd2, ht2⟩, _⟩ := I.list hb
  have l1 := r.length
  have l2 := r2.length
  simp only at hc1 hd1 ht1 hc2 hd2 ht2
  subst hc1 hd1 ht1 hc2 hd2 ht2
  have eA : its.toArray ++ its2.toArray = (its ++ its2).toArray := by simp
  have hsz : its.toArray.size + its2.toArray.size ≤ sizeLine := by rw [List.size_toArray, List.size_toArray]; omega
  refine concat_meets ⟨_, e1, rfl⟩ ⟨_, e2, rfl⟩ noFill_list_add seq_list_add PySem.F.slot_list_add PySem.F.entry_list_add (PySem.F.args_list_add_2 _ _)
    (list_addW l b its.toArray its2.toArray n1 n2 _ _ sl1 sl2 hsz) ⟨e1, e2, ?_⟩
  rw [eA]
  exact ⟨.ref _, _, Inv.newL I (r.append r2) (by rw [List.length_append]; exact hz), rfl, q _ (Inv.fresh' I)⟩
def rAddAll (K : PySem.W.Frag) : R2 := fun x y H Q => rI0 (fun i j => .int (i + j)) x y H Q ∨ (rCatA K x y H Q ∨ rCatL K x y H Q)
theorem op_addAll : OpR X (binaryOp .Add) (rAddAll X.K) := OpR.or op_add (OpR.or op_catA op_catL)
theorem ok_add : OpOk Tb B X.K (rAddAll X.K) addD := fun W F ρ σ H x y d e Q s a b q => by
  cases d with
  | int i => cases e with
    | int j => exact .inl ⟨i, j, a.int, b.int, q W H _ (Ext.refl _) s (.int _)⟩
    | _ => exact q.elim
  | tuple xs => cases e with
    | tuple ys =>
      obtain ⟨hz, q⟩ := hold_if q
      obtain ⟨p, vs, rfl, _, h1, _, h2⟩ := Rb.tup s.w a
      obtain ⟨p', ws, rfl, _, h3, _, h4⟩ := Rb.tup s.w b
      have l1 := DpAll.len h2
      have l2 := DpAll.len h4
      refine .inr (.inl ⟨p, p', vs, ws, rfl, rfl, h1, h3, line1M (by omega), fun e => ?_, fun _ e => ?_, fun _ _ => s.mkT (DpAll.app h2 h4) (by rw [List.length_append]; exact line1M (by omega)) q⟩)
      · rw [(DpAll.nil_iff h2).mp e, List.nil_append] at q
        exact q W H _ (Ext.refl _) s (by cases b with | tup hs ha => exact .tup hs ha)
      · rw [(DpAll.nil_iff h4).mp e, List.append_nil] at q
        exact q W H _ (Ext.refl _) s (by cases a with | tup hs ha => exact .tup hs ha)
    | _ => exact q.elim
  | list xs => cases e with
    | list ys =>
      obtain ⟨hz, q⟩ := hold_if q
      obtain ⟨p, vs, rfl, h1, _, h2⟩ := a.list
      obtain ⟨p', ws, rfl, h3, _, h4⟩ := b.list
      have l1 := DpAll.len h2
      have l2 := DpAll.len h4
      exact .inr (.inr ⟨p, p', vs, ws, rfl, rfl, h1, h3, line1M (by omega), s.mkL (DpAll.app h2 h4) (by rw [List.length_append]; exact line1M (by omega)) q⟩)
    | _ => exact q.elim
  | _ => exact q.elim
def intD (f : Int → Int → T AV) : PyData → PyData → T AV
  | .int i, .int j => f i j
  | _, _ => .err
theorem ok_int {K : PySem.W.Frag} {r : R2} {f : Int → Int → T AV} (h : ∀ W F ρ σ H i j Q, Sim K Tb B W F ρ σ H → Hold (f i j) (RPost K Tb B W F ρ σ Q) → r (.int i) (.int j) H Q) : OpOk Tb B K r (intD f) := fun W F ρ σ H x y d e Q s a b q => by
  cases d with
  | int i => cases e with
    | int j =>
      rw [a.int, b.int]
      exact h W F ρ σ H i j Q s q
    | _ => exact q.elim
  | _ => exact q.elim
abbrev subD : PyData → PyData → T AV := intD fun i j => .ret (.sh (.int (i - j)))
theorem ok_sub : OpOk Tb B X.K (rI0 fun i j => .int (i - j)) subD := ok_int fun W F ρ σ H i j Q s q => ⟨i, j, rfl, rfl, q W H _ (Ext.refl _) s (.int _)⟩
abbrev mulD : PyData → PyData → T AV := intD fun i j => if (-(2 ^ 64) < i ∧ i < 2 ^ 64) ∨ (-(2 ^ 64) < j ∧ j < 2 ^ 64) then .ret (.sh (.int (i * j))) else .err
theorem ok_mul : OpOk Tb B X.K (rI CMul fun i j => .int (i * j)) mulD := ok_int fun W F ρ σ H i j Q s q => by
  obtain ⟨hz, q⟩ := hold_if q
  exact ⟨i, j, rfl, rfl, hz, q W H _ (Ext.refl _) s (.int _)⟩
abbrev modD : PyData → PyData → T AV := intD fun i j => if j ≠ 0 then .ret (.sh (.int (i.fmod j))) else .err
theorem ok_mod : OpOk Tb B X.K (rI (fun _ j => j ≠ 0) fun i j => .int (i.fmod j)) modD := ok_int fun W F ρ σ H i j Q s q => by
  obtain ⟨hz, q⟩ := hold_if q
  exact ⟨i, j, rfl, rfl, hz, q W H _ (Ext.refl _) s (.int _)⟩
abbrev fdivD : PyData → PyData → T AV := intD fun i j => if j ≠ 0 ∧ j.natAbs < 1073741824 then .ret (.sh (.int (i.fdiv j))) else .err
theorem ok_fdiv : OpOk Tb B X.K (rI CDivN fun i j => .int (i.fdiv j)) fdivD := ok_int fun W F ρ σ H i j Q s q => by
  obtain ⟨hz, q⟩ := hold_if q
  exact ⟨i, j, rfl, rfl, hz, q W H _ (Ext.refl _) s (.int _)⟩
/-! ### comparisons -/
def okD (d : PyData) : Bool := SeqAt.shaped d
def eqD (x y : PyData) : T AV := if (okD x && okD y) = true then .ret (.sh (.bool (PyData.eqv x y))) else .err
def neD (x y : PyData) : T AV := if (okD x && okD y) = true then .ret (.sh (.bool (!PyData.eqv x y))) else .err
theorem and2 {a b : Bool} (h : (a && b) = true) : a = true ∧ b = true := Bool.and_eq_true_iff.mp h
theorem ok_eq : OpOk Tb B X.K (rEqD X.K) eqD := fun W F ρ σ H x y d e Q s a b q => by
  obtain ⟨hz, q⟩ := hold_if q
  exact ⟨d, e, a.dp s.w, b.dp s.w, (and2 hz).1, (and2 hz).2, q W H _ (Ext.refl _) s (.bl _)⟩
theorem ok_ne : OpOk Tb B X.K (rNeD X.K) neD := fun W F ρ σ H x y d e Q s a b q => by
  obtain ⟨hz, q⟩ := hold_if q
  exact ⟨d, e, a.dp s.w, b.dp s.w, (and2 hz).1, (and2 hz).2, q W H _ (Ext.refl _) s (.bl _)⟩
/-- < of alike data -/
def rLtD (K : PySem.W.Frag) (f : PyData → PyData → Bool) : R2 := fun x y H Q => ∃ d e, Dp K H x d ∧ Dp K H y e ∧ PySem.W.alike d e = true ∧ d ≠ .none ∧ d.depth ≤ 64 ∧ Q (.bl (f d e)) H
theorem room_min {A : Around} {d e : PyData} (h : d.depth ≤ 64) (hu : A.units + 200 < cLine) : A.units + min d.depth e.depth < cLine := by
  have := Nat.min_le_left d.depth e.depth
  omega
theorem op_ltD (hu : X.A.units + 200 < cLine) : OpR X (compareOp .Lt) (rLtD X.K fun d e => PySem.W.dataLt d e) := by
  intro pins s σ H x y v u Q I rx ry ⟨d, e, hd, he, ha, hn, hz, q⟩
  obtain ⟨as, r1⟩ := Dp.reads I d x v hd rx
  obtain ⟨bs, r2⟩ := Dp.reads I e y u he ry
  exact PySem.W.lt_data r1 r2 ha hn (room_min hz hu) ⟨.bl _, H, I, rfl, q⟩
theorem op_gtD (hu : X.A.units + 200 < cLine) : OpR X (compareOp .Gt) (rLtD X.K fun d e => PySem.W.dataLt e d) := by
  intro pins s σ H x y v u Q I rx ry ⟨d, e, hd, he, ha, hn, hz, q⟩
  obtain ⟨as, r1⟩ := Dp.reads I d x v hd rx
  obtain ⟨bs, r2⟩ := Dp.reads I e y u he ry
  exact PySem.W.gt_data r1 r2 ha hn (room_min hz hu) ⟨.bl _, H, I, rfl, q⟩
theorem op_leD (hu : X.A.units + 200 < cLine) : OpR X (compareOp .LtE) (rLtD X.K fun d e => !PySem.W.dataLt e d) := by
  intro pins s σ H x y v u Q I rx ry ⟨d, e, hd, he, ha, hn, hz, q⟩
  obtain ⟨as, r1⟩ := Dp.reads I d x v hd rx
  obtain ⟨bs, r2⟩ := Dp.reads I e y u he ry
  exact PySem.W.le_data r1 r2 ha hn (room_min hz hu) ⟨.bl _, H, I, rfl, q⟩
theorem op_geD (hu : X.A.units + 200 < cLine) : OpR X (compareOp .GtE) (rLtD X.K fun d e => !PySem.W.dataLt d e) := by
  intro pins s σ H x y v u Q I rx ry ⟨d, e, hd, he, ha, hn, hz, q⟩
  obtain ⟨as, r1⟩ := Dp.reads I d x v hd rx
  obtain ⟨bs, r2⟩ := Dp.reads I e y u he ry
  exact PySem.W.ge_data r1 r2 ha hn (room_min hz hu) ⟨.bl _, H, I, rfl, q⟩
def isNone : PyData → Bool
  | .none => true
  | _ => false
/-- an order by fI of numbers, by f of all alike data -/
def ordD (fI : Int → Int → Bool) (f : PyData → PyData → Bool) (x y : PyData) : T AV := match x, y with
  | .int i, .int j => .ret (.sh (.bool (fI i j)))
  | x, y => if (PySem.W.alike x y && (!isNone x && decide (x.depth ≤ 64))) = true then .ret (.sh (.bool (f x y))) else .err
abbrev ltD : PyData → PyData → T AV := ordD (fun i j => decide (i < j)) fun d e => PySem.W.dataLt d e
abbrev gtD : PyData → PyData → T AV := ordD (fun i j => decide (j < i)) fun d e => PySem.W.dataLt e d
abbrev leD : PyData → PyData → T AV := ordD (fun i j => decide (i ≤ j)) fun d e => !PySem.W.dataLt e d
abbrev geD : PyData → PyData → T AV := ordD (fun i j => decide (j ≤ i)) fun d e => !PySem.W.dataLt d e
theorem ok_ord {K : PySem.W.Frag} {fI : Int → Int → Bool} {f : PyData → PyData → Bool} : OpOk Tb B K (fun x y H Q => rI0 (fun i j => .bl (fI i j)) x y H Q ∨ rLtD K f x y H Q) (ordD fI f) := fun W F ρ σ H x y d e Q s a b q => by
  have gen : Hold (if (PySem.W.alike d e && (!isNone d && decide (d.depth ≤ 64))) = true then T.ret (AV.sh (.bool (f d e))) else .err) (RPost K Tb B W F ρ σ Q) → rLtD K f x y H Q := fun q => by
    obtain ⟨hz, q⟩ := hold_if q
    obtain ⟨h1, h2⟩ := and2 hz
    obtain ⟨h2, h3⟩ := and2 h2
    have hn : d ≠ .none := fun z => by
      subst z
      cases h2
    exact ⟨d, e, a.dp s.w, b.dp s.w, h1, hn, of_decide_eq_true h3, q W H _ (Ext.refl _) s (.bl _)⟩
  cases d with
  | int i => cases e with
    | int j => exact .inl ⟨i, j, a.int, b.int, q W H _ (Ext.refl _) s (.bl _)⟩
    | _ => exact .inr (gen q)
  | _ => exact .inr (gen q)
/-! ### in -/
def seqOf : PyData → Option (List PyData)
  | .list ds => some ds
  | .tuple ds => some ds
  | _ => none
def rInA (K : PySem.W.Frag) (f : Bool → Bool) : R2 := fun x y H Q => ∃ d e ds, Dp K H x d ∧ Dp K H y e ∧ seqOf e = some ds ∧ SeqAt.shaped d = true ∧ SeqAt.shaped e = true ∧ Q (.bl (f (ds.any fun z => PyData.eqv z d))) H
theorem room_in {A : Around} {d : PyData} {ds : List PyData} (h : SeqAt.shaped d = true) (hu : A.units + 200 < cLine) : A.units + 1 + min (PyData.depthAll ds) d.depth < cLine := by
  have h1 := SeqAt.depth_of_shaped h
  have h2 : min (PyData.depthAll ds) d.depth ≤ d.depth := Nat.min_le_right _ _
  omega
theorem op_inA (hu : X.A.units + 200 < cLine) : OpR X (compareOp .In) (rInA X.K id) := by
  intro pins s σ H x y v u Q I rx ry ⟨d, e, ds, hd, he, hs, sd, se, q⟩
  obtain ⟨as, r1⟩ := Dp.reads I d x v hd rx
  obtain ⟨bs, r2⟩ := Dp.reads I e y u he ry
  cases e with
  | list es =>
    cases hs
    exact SeqAt.in_list_reads r2 r1 (SeqAt.canLay_of_shaped se) (SeqAt.canLay_of_shaped sd) (room_in sd hu) ⟨.bl _, H, I, rfl, q⟩
  | tuple es =>
    cases hs
    exact SeqAt.in_tuple_reads r2 r1 (SeqAt.canLay_of_shaped se) (SeqAt.canLay_of_shaped sd) (room_in sd hu) ⟨.bl _, H, I, rfl, q⟩
  | _ => cases hs
theorem op_notInA (hu : X.A.units + 200 < cLine) : OpR X (compareOp .NotIn) (rInA X.K not) := by
  intro pins s σ H x y v u Q I rx ry ⟨d, e, ds, hd, he, hs, sd, se, q⟩
  obtain ⟨as, r1⟩ := Dp.reads I d x v hd rx
  obtain ⟨bs, r2⟩ := Dp.reads I e y u he ry
  cases e with
  | list es =>
    cases hs
    exact SeqAt.notIn_list_reads r2 r1 (SeqAt.canLay_of_shaped se) (SeqAt.canLay_of_shaped sd) (room_in sd hu) ⟨.bl _, H, I, rfl, q⟩
  | tuple es =>
    cases hs
    exact SeqAt.notIn_tuple_reads r2 r1 (SeqAt.canLay_of_shaped se) (SeqAt.canLay_of_shaped sd) (room_in sd hu) ⟨.bl _, H, I, rfl, q⟩
  | _ => cases hs
def memD (f : Bool → Bool) (x y : PyData) : T AV := match seqOf y with
  | some ds => if (okD x && okD y) = true then .ret (.sh (.bool (f (ds.any fun z => PyData.eqv z x)))) else .err
  | none => .err
theorem ok_mem {K : PySem.W.Frag} {f : Bool → Bool} : OpOk Tb B K (rInA K f) (memD f) := fun W F ρ σ H x y d e Q s a b q => by
  unfold memD at q
  cases h : seqOf e with
  | none => rw [h] at q; exact q.elim
  | some ds =>
    rw [h] at q
    obtain ⟨hz, q⟩ := hold_if q
    exact ⟨d, e, ds, a.dp s.w, b.dp s.w, h, (and2 hz).1, (and2 hz).2, q W H _ (Ext.refl _) s (.bl _)⟩
/-! ### is -/
def isND (f : Bool → Bool) : PyData → PyData → T AV
  | x, .none => .ret (.sh (.bool (f (isNone x))))
  | _, _ => .err
theorem isNone_iff {K : PySem.W.Frag} {W : Wd} {H : Hp} {x : V} {d : PyData} (h : Rb K W H x d) : decide (x = .non) = isNone d := by
  cases d with
  | list ds =>
    obtain ⟨a, vs, rfl, _⟩ := h.list
    rfl
  | _ => cases h <;> rfl
theorem ok_isN : OpOk Tb B X.K (fun x y H Q => y = .non ∧ Q (.bl (decide (x = .non))) H) (isND id) := fun W F ρ σ H x y d e Q s a b q => by
  cases e with
  | none =>
    cases b
    refine ⟨rfl, ?_⟩
    rw [isNone_iff a]
    exact q W H _ (Ext.refl _) s (.bl _)
  | _ => exact q.elim
theorem ok_notN : OpOk Tb B X.K (fun x y H Q => y = .non ∧ Q (.bl (!decide (x = .non))) H) (isND not) := fun W F ρ σ H x y d e Q s a b q => by
  cases e with
  | none =>
    cases b
    refine ⟨rfl, ?_⟩
    rw [isNone_iff a]
    exact q W H _ (Ext.refl _) s (.bl _)
  | _ => exact q.elim
/-- x is True, of a truth value -/
def isBD (f : Bool → Bool) : PyData → PyData → T AV
  | .bool x, .bool y => .ret (.sh (.bool (f (x == y))))
  | _, _ => .err
/-! ### subscripts -/
def ixD : PyData → PyData → T AV
  | .list ds, .int i => match atI ds i with
    | some d => .ret (.sh d)
    | none => .err
  | .tuple ds, .int i => match atI ds i with
    | some d => .ret (.sh d)
    | none => .err
  | _, _ => .err
theorem atI_get {K : PySem.W.Frag} {H : Hp} {vs : List V} {ds : List PyData} {i : Int} {d : PyData} (h : DpAll K H vs ds) (e : atI ds i = some d) : ∃ v, atI vs i = some v ∧ Dp K H v d := by
  unfold atI at e ⊢
  rw [DpAll.len h]
  cases q : ixN ds.length i with
  | none => rw [q] at e; cases e
  | some j =>
    rw [q] at e
    exact DpAll.get h e
theorem ok_ix : OpOk Tb B X.K (rIx X.K) ixD := fun W F ρ σ H x y d e Q s a b q => by
  cases d with
  | list ds => cases e with
    | int i =>
      obtain ⟨p, vs, rfl, h1, _, h2⟩ := a.list
      cases b
      have q : Hold (match atI ds i with
        | some d => T.ret (AV.sh d)
        | none => .err) (RPost X.K Tb B W F ρ σ Q) := q
      cases e : atI ds i with
      | none => rw [e] at q; exact q.elim
      | some d =>
        rw [e] at q
        obtain ⟨v, hv, hd⟩ := atI_get h2 e
        exact .inl ⟨p, vs, i, v, rfl, rfl, h1, hv, q W H v (Ext.refl _) s hd⟩
    | _ => exact q.elim
  | tuple ds => cases e with
    | int i =>
      obtain ⟨p, vs, rfl, _, h1, _, h2⟩ := Rb.tup s.w a
      cases b
      have q : Hold (match atI ds i with
        | some d => T.ret (AV.sh d)
        | none => .err) (RPost X.K Tb B W F ρ σ Q) := q
      cases e : atI ds i with
      | none => rw [e] at q; exact q.elim
      | some d =>
        rw [e] at q
        obtain ⟨v, hv, hd⟩ := atI_get h2 e
        exact .inr (.inl ⟨p, vs, i, v, rfl, rfl, h1, hv, q W H v (Ext.refl _) s hd⟩)
    | _ => exact q.elim
  | _ => exact q.elim
end
end Dn
end
section
set_option Elab.async false
set_option linter.all false
set_option autoImplicit false
set_option maxRecDepth 100000
/-! Dn6: built-ins by what they do to data. -/
namespace Dn
open PySem PySem.Spec PyProof.Rows L2 LamX

section
variable {Tb : List (Addr × Str)} {B : Wd → V → (List PyData → T PyData) → Prop} {X : Cx}
/-- one argument -/
def one1 (f : PyData → T AV) : List PyData → T AV
  | [d] => f d
  | _ => .err
theorem call1 {K : PySem.W.Frag} {r : List V → Hp → VK → Prop} {f : PyData → T AV} (h : ∀ W F ρ σ H v d Q, Sim K Tb B W F ρ σ H → Rb K W H v d → Hold (f d) (RPost K Tb B W F ρ σ Q) → r [v] H Q) : CallOk Tb B K r (one1 f) := fun W F ρ σ H vs ds Q s a q => by
  cases a with
  | nil => exact q.elim
  | cons h1 h2 =>
    cases h2 with
    | nil => exact h W F ρ σ H _ _ Q s h1 q
    | cons _ _ => exact q.elim
def two2 (f : PyData → PyData → T AV) : List PyData → T AV
  | [d, e] => f d e
  | _ => .err
theorem call2 {K : PySem.W.Frag} {r : List V → Hp → VK → Prop} {f : PyData → PyData → T AV} (h : ∀ W F ρ σ H v w d e Q, Sim K Tb B W F ρ σ H → Rb K W H v d → Rb K W H w e → Hold (f d e) (RPost K Tb B W F ρ σ Q) → r [v, w] H Q) : CallOk Tb B K r (two2 f) := fun W F ρ σ H vs ds Q s a q => by
  cases a with
  | nil => exact q.elim
  | cons h1 h2 =>
    cases h2 with
    | nil => exact q.elim
    | cons h3 h4 =>
      cases h4 with
      | nil => exact h W F ρ σ H _ _ _ _ Q s h1 h3 q
      | cons _ _ => exact q.elim
/-- what a list or a tuple holds -/
theorem Rb.seq {K : PySem.W.Frag} {W : Wd} {F H : Hp} {v : V} {d : PyData} {ds : List PyData} (w : WOk Tb W F H) (h : Rb K W H v d) (e : seqOf d = some ds) : ∃ a vs, v = .ref a ∧ (SqL K H a vs ∨ SqT K H a vs) ∧ vs.length ≤ sizeLine ∧ DpAll K W.Φ vs ds := by
  cases d with
  | list es =>
    cases e
    obtain ⟨a, vs, h1, h2, h3, h4⟩ := h.list
    exact ⟨a, vs, h1, .inl h2, h3, h4⟩
  | tuple es =>
    cases e
    obtain ⟨a, vs, h1, _, h2, h3, h4⟩ := Rb.tup w h
    exact ⟨a, vs, h1, .inr h2, h3, h4⟩
  | _ => cases e
def optT {α β : Type} (o : Option α) (f : α → T β) : T β := match o with
  | some a => f a
  | none => .err
theorem hold_opt {α β : Type} {o : Option α} {f : α → T β} {p : β → Prop} (h : Hold (optT o f) p) : ∃ a, o = some a ∧ Hold (f a) p := by
  cases o with
  | none => exact h.elim
  | some a => exact ⟨a, rfl, h⟩
/-! ### len, list, tuple -/
def lenD : List PyData → T AV := one1 fun d => optT (seqOf d) fun ds => .ret (.sh (.int (ds.length : Nat)))
theorem ok_len : CallOk Tb B X.K (fun xs H Q => ∃ p ys, xs = [V.ref p] ∧ (SqL X.K H p ys ∨ SqT X.K H p ys) ∧ Q (V.int (ys.length : Nat)) H) lenD := call1 fun W F ρ σ H v d Q s a q => by
  obtain ⟨ds, e, q⟩ := hold_opt q
  obtain ⟨p, vs, rfl, h1, _, h2⟩ := a.seq s.w e
  exact ⟨p, vs, rfl, h1, by rw [DpAll.len h2]; exact q W H _ (Ext.refl _) s (.int _)⟩
def listD : List PyData → T AV := one1 fun d => optT (seqOf d) fun ds => .ret (.own ds)
theorem ok_list : CallOk Tb B X.K (fun xs H Q => ∃ p ys, xs = [V.ref p] ∧ (SqL X.K H p ys ∨ SqT X.K H p ys) ∧ ∀ l, H l = none → Q (V.ref l) (upd H l (.lst ys))) listD := call1 fun W F ρ σ H v d Q s a q => by
  obtain ⟨ds, e, q⟩ := hold_opt q
  obtain ⟨p, vs, rfl, h1, hz, h2⟩ := a.seq s.w e
  exact ⟨p, vs, rfl, h1, s.mkL h2 hz q⟩
def tupleD : List PyData → T AV := one1 fun d => optT (seqOf d) fun ds => .ret (.sh (.tuple ds))
theorem ok_tuple : CallOk Tb B X.K (fun xs H Q => ∃ p ys, xs = [V.ref p] ∧ ((SqL X.K H p ys ∧ ∀ l, H l = none → Q (V.ref l) (upd H l (.tup ys))) ∨ (SqT X.K H p ys ∧ Q (V.ref p) H))) tupleD := call1 fun W F ρ σ H v d Q s a q => by
  cases d with
  | list es =>
    obtain ⟨p, vs, rfl, h1, hz, h2⟩ := a.list
    exact ⟨p, vs, rfl, .inl ⟨h1, s.mkT h2 hz q⟩⟩
  | tuple es =>
    obtain ⟨p, vs, rfl, h0, h1, hz, h2⟩ := Rb.tup s.w a
    exact ⟨p, vs, rfl, .inr ⟨h1, q W H _ (Ext.refl _) s (.tup h0 h2)⟩⟩
  | _ => exact q.elim
/-! ### all, any -/
def boolsOf : List PyData → Option (List Bool)
  | [] => some []
  | .bool b :: ds => match boolsOf ds with
    | some bs => some (b :: bs)
    | none => none
  | _ :: _ => none
theorem bools_vals {K : PySem.W.Frag} {H : Hp} : ∀ {ds : List PyData} {vs : List V} {bs : List Bool}, DpAll K H vs ds → boolsOf ds = some bs → vs = bs.map V.bl
  | [], _, _, h, e => by
    cases h
    cases e
    rfl
  | .bool b :: ds, _, bs, h, e => by
    cases h with
    | cons h1 h2 =>
      cases h1
      have e : (match boolsOf ds with
        | some bs => some (b :: bs)
        | none => none) = some bs := e
      cases q : boolsOf ds with
      | none => rw [q] at e; cases e
      | some cs =>
        rw [q] at e
        cases e
        rw [List.map_cons, bools_vals h2 q]
  | .none :: _, _, _, _, e => by cases e
  | .int _ :: _, _, _, _, e => by cases e
  | .str _ :: _, _, _, _, e => by cases e
  | .list _ :: _, _, _, _, e => by cases e
  | .tuple _ :: _, _, _, _, e => by cases e
  | .dict _ :: _, _, _, _, e => by cases e
def boolD (f : List Bool → Bool) : List PyData → T AV := one1 fun d => match d with
  | .list ds => optT (boolsOf ds) fun bs => .ret (.sh (.bool (f bs)))
  | _ => .err
theorem ok_bools {f : List Bool → Bool} : CallOk Tb B X.K (fun vs H Q => ∃ (a : Addr) (bs : List Bool), vs = [V.ref a] ∧ SqL X.K H a (bs.map V.bl) ∧ Q (.bl (f bs)) H) (boolD f) := call1 fun W F ρ σ H v d Q s a q => by
  cases d with
  | list ds =>
    obtain ⟨bs, e, q⟩ := hold_opt (o := boolsOf ds) q
    obtain ⟨p, vs, rfl, h1, hz, h2⟩ := a.list
    rw [bools_vals h2 e] at h1
    exact ⟨p, bs, rfl, h1, q W H _ (Ext.refl _) s (.bl _)⟩
  | _ => exact q.elim
abbrev allD : List PyData → T AV := boolD fun bs => bs.all id
abbrev anyD : List PyData → T AV := boolD fun bs => bs.any id
/-! ### numbers -/
def absD : List PyData → T AV := one1 fun d => match d with
  | .int i => .ret (.sh (.int (if i < 0 then -i else i)))
  | _ => .err
theorem ok_abs : CallOk Tb B X.K (fun xs H Q => ∃ i, xs = [V.int i] ∧ Q (.int (if i < 0 then -i else i)) H) absD := call1 fun W F ρ σ H v d Q s a q => by
  cases d with
  | int i => exact ⟨i, by rw [a.int], q W H _ (Ext.refl _) s (.int _)⟩
  | _ => exact q.elim
def intOfD : List PyData → T AV := one1 fun d => match d with
  | .int i => .ret (.sh (.int i))
  | .bool b => .ret (.sh (.int (if b = true then 1 else 0)))
  | _ => .err
theorem ok_intOf : CallOk Tb B X.K (fun xs H Q => (∃ i, xs = [V.int i] ∧ Q (.int i) H) ∨ ∃ k : Bool, xs = [V.bl k] ∧ Q (.int (if k = true then 1 else 0)) H) intOfD := call1 fun W F ρ σ H v d Q s a q => by
  cases d with
  | int i => exact .inl ⟨i, by rw [a.int], q W H _ (Ext.refl _) s (.int _)⟩
  | bool b => exact .inr ⟨b, by rw [a.bool], q W H _ (Ext.refl _) s (.int _)⟩
  | _ => exact q.elim
def max2D : List PyData → T AV := two2 (intD fun i j => .ret (.sh (.int (if j > i then j else i))))
def min2D : List PyData → T AV := two2 (intD fun i j => .ret (.sh (.int (if j < i then j else i))))
theorem ok_max2 : CallOk Tb B X.K (fun xs H Q => ∃ i j : Int, xs = [V.int i, V.int j] ∧ Q (.int (if j > i then j else i)) H) max2D := call2 fun W F ρ σ H v w d e Q s a b q => by
  cases d with
  | int i => cases e with
    | int j => exact ⟨i, j, by rw [a.int, b.int], q W H _ (Ext.refl _) s (.int _)⟩
    | _ => exact q.elim
  | _ => exact q.elim
theorem ok_min2 : CallOk Tb B X.K (fun xs H Q => ∃ i j : Int, xs = [V.int i, V.int j] ∧ Q (.int (if j < i then j else i)) H) min2D := call2 fun W F ρ σ H v w d e Q s a b q => by
  cases d with
  | int i => cases e with
    | int j => exact ⟨i, j, by rw [a.int, b.int], q W H _ (Ext.refl _) s (.int _)⟩
    | _ => exact q.elim
  | _ => exact q.elim
def intsOf : List PyData → Option (List Int)
  | [] => some []
  | .int b :: ds => match intsOf ds with
    | some bs => some (b :: bs)
    | none => none
  | _ :: _ => none
theorem ints_vals {K : PySem.W.Frag} {H : Hp} : ∀ {ds : List PyData} {vs : List V} {bs : List Int}, DpAll K H vs ds → intsOf ds = some bs → vs = bs.map V.int ∧ ds = bs.map PyData.int
  | [], _, _, h, e => by
    cases h
    cases e
    exact ⟨rfl, rfl⟩
  | .int b :: ds, _, bs, h, e => by
    cases h with
    | cons h1 h2 =>
      cases h1
      have e : (match intsOf ds with
        | some bs => some (b :: bs)
        | none => none) = some bs := e
      cases q : intsOf ds with
      | none => rw [q] at e; cases e
      | some cs =>
        rw [q] at e
        cases e
        obtain ⟨e1, e2⟩ := ints_vals h2 q
        exact ⟨by rw [List.map_cons, e1], by rw [List.map_cons, e2]⟩
  | .none :: _, _, _, _, e => by cases e
  | .bool _ :: _, _, _, _, e => by cases e
  | .str _ :: _, _, _, _, e => by cases e
  | .list _ :: _, _, _, _, e => by cases e
  | .tuple _ :: _, _, _, _, e => by cases e
  | .dict _ :: _, _, _, _, e => by cases e
def sumD : List PyData → T AV := one1 fun d => match d with
  | .list ds => optT (intsOf ds) fun bs => .ret (.sh (.int bs.sum))
  | _ => .err
theorem ok_sum : CallOk Tb B X.K (rSum X.K) sumD := call1 fun W F ρ σ H v d Q s a q => by
  cases d with
  | list ds =>
    obtain ⟨bs, e, q⟩ := hold_opt (o := intsOf ds) q
    obtain ⟨p, vs, rfl, h1, hz, h2⟩ := a.list
    rw [(ints_vals h2 e).1] at h1
    exact ⟨p, bs, rfl, h1, q W H _ (Ext.refl _) s (.int _)⟩
  | _ => exact q.elim
/-! ### isinstance -/
def tyName : PyData → String
  | .none => "NoneType"
  | .bool _ => "bool"
  | .int _ => "int"
  | .str _ => "str"
  | .list _ => "list"
  | .tuple _ => "tuple"
  | .dict _ => "dict"
theorem ty_of {K : PySem.W.Frag} {W : Wd} {F H : Hp} {v : V} {d : PyData} (w : WOk Tb W F H) (h : Rb K W H v d) : TyX K H v (.type (tyName d)) := by
  cases d with
  | none => cases h; exact .base .non
  | bool b => cases h; exact .base (.bl b)
  | int i => cases h; exact .base (.int i)
  | str x => cases h; exact .base (.str x)
  | list ds =>
    obtain ⟨a, vs, rfl, h1, _⟩ := h.list
    rcases h1 with (h1 | ⟨o, h1⟩) | ⟨o, its, n, h1, h2, _⟩
    · exact .base (.lst h1)
    · exact .base (.frz h1)
    · exact .kList h1 h2
  | tuple ds =>
    obtain ⟨a, vs, rfl, _, h1, _⟩ := Rb.tup w h
    rcases h1 with (h1 | ⟨o, h1⟩) | ⟨o, its, n, h1, h2, _⟩
    · exact .base (.tup h1)
    · exact .fTuple h1
    · exact .kTuple h1 h2
  | dict _ => cases h
/-- what isinstance tells of the built-in types' names -/
def isTy (T : String) (d : PyData) : Bool := tyName d == T || (T == "int" && tyName d == "bool")
def Kit (T : String) : Prop := ∀ d : PyData, kitB (tyName d) T = some (isTy T d)
theorem kit_of {T : String} (h : (["NoneType", "bool", "int", "str", "list", "tuple", "dict"].all fun n => decide (kitB n T = some (n == T || (T == "int" && n == "bool")))) = true) : Kit T := fun d => by
  have q := List.all_eq_true.mp h
  have m : tyName d ∈ ["NoneType", "bool", "int", "str", "list", "tuple", "dict"] := by cases d <;> simp [tyName]
  exact of_decide_eq_true (q _ m)
theorem kit_int : Kit "int" := kit_of (by decide +kernel)
theorem kit_bool : Kit "bool" := kit_of (by decide +kernel)
theorem kit_tuple : Kit "tuple" := kit_of (by decide +kernel)
theorem kit_list : Kit "list" := kit_of (by decide +kernel)
theorem kit_str : Kit "str" := kit_of (by decide +kernel)
theorem pd_isi {a : Expr} {f : Env → T PyData} {T : String} {x : Str} {p pc pos : Pos} (ha : PB Tb B X a f) (hg : Gl X "isinstance") (hm : X.mg "isinstance" = none) (hgT : Gl X x) (hmT : X.mg x = none) (hT : bootBuiltins x = some (.type T)) (kt : Kit T)
    (hn : x ≠ "__name__" := by decide) (hd : (x == ("__debug__" : Str)) = false := by decide)
    (h1 : starEach [a, .Name x p] X.env = (false, eval a X.env) :: starEach [.Name x p] X.env := by rfl) (h2 : starEach [.Name x p] X.env = (false, eval (.Name x p) X.env) :: starEach [] X.env := by rfl)
    (hpl : (backTo pos (starEach [.Name x p] X.env)).any (·.1) = false := by rfl) :
    PD Tb B X (.Call (.Name "isinstance" pc) [a, .Name x p] [] pos) fun ρ => (f ρ).bind fun d => .ret (.sh (.bool (isTy T d))) := by
  refine PE.weaken (pe_callB call_isi hg hm (by decide +kernel) (pa_cons ha (pa_cons (pe_bltn (v := .ty T) hgT hmT hT rfl hn hd) pa_nil h2) h1) (by decide) (by decide) h1 hpl) fun σ H Q ⟨W, F, ρ, s, q⟩ => ?_
  refine ⟨W, F, ρ, s, (Hold.bind q).mono fun d z W1 H1 v e1 s1 r1 => ?_⟩
  have r := r1 W1 F H1 (Ext.refl _) s1
  exact ⟨v, .ty T, _, .type T, _, rfl, .ty T, ty_of s1.w r, kit_ty (kt d), z W1 H1 _ e1 s1 (.bl _)⟩
theorem kit_any2 {K : PySem.W.Frag} {d : PyData} {S T : String} (h1 : kitB (tyName d) S = some (isTy S d)) (h2 : kitB (tyName d) T = some (isTy T d)) : PySem.W.kitAny K (.type (tyName d)) [.type S, .type T] = some (isTy S d || isTy T d) := by
  have e1 := kit_ty (K := K) h1
  have e2 := kit_ty (K := K) h2
  unfold PySem.W.kitAny
  rw [e1]
  cases isTy S d with
  | true => rfl
  | false =>
    show PySem.W.kitAny K _ [_] = _
    unfold PySem.W.kitAny
    rw [e2]
    cases isTy T d <;> rfl
theorem pd_isi2 {a : Expr} {f : Env → T PyData} {S T : String} {x y : Str} {p p2 pt pc pos : Pos} {k : Nat} (ha : PB Tb B X a f) (hg : Gl X "isinstance") (hm : X.mg "isinstance" = none) (hgS : Gl X x) (hmS : X.mg x = none) (hS : bootBuiltins x = some (.type S)) (hgT : Gl X y) (hmT : X.mg y = none) (hT : bootBuiltins y = some (.type T)) (ks : Kit S) (kt : Kit T)
    (hn : x ≠ "__name__" := by decide) (hd : (x == ("__debug__" : Str)) = false := by decide) (hn2 : y ≠ "__name__" := by decide) (hd2 : (y == ("__debug__" : Str)) = false := by decide)
    (h1 : starEach [a, .Tuple [.Name x p, .Name y p2] k pt] X.env = (false, eval a X.env) :: starEach [.Tuple [.Name x p, .Name y p2] k pt] X.env := by rfl)
    (h2 : starEach [.Tuple [.Name x p, .Name y p2] k pt] X.env = (false, eval (.Tuple [.Name x p, .Name y p2] k pt) X.env) :: starEach [] X.env := by rfl)
    (h3 : starEach [.Name x p, .Name y p2] X.env = (false, eval (.Name x p) X.env) :: starEach [.Name y p2] X.env := by rfl) (h4 : starEach [.Name y p2] X.env = (false, eval (.Name y p2) X.env) :: starEach [] X.env := by rfl)
    (hpl : (backTo pos (starEach [.Tuple [.Name x p, .Name y p2] k pt] X.env)).any (·.1) = false := by rfl) :
    PD Tb B X (.Call (.Name "isinstance" pc) [a, .Tuple [.Name x p, .Name y p2] k pt] [] pos) fun ρ => (f ρ).bind fun d => .ret (.sh (.bool (isTy S d || isTy T d))) := by
  refine PE.weaken (pe_callB call_isiT hg hm (by decide +kernel) (pa_cons ha (pa_cons (pe_tup (pa_cons (pe_bltn (v := .ty S) hgS hmS hS rfl hn hd) (pa_cons (pe_bltn (v := .ty T) hgT hmT hT rfl hn2 hd2) pa_nil h4) h3)) pa_nil h2) h1) (by decide) (by decide) h1 hpl) fun σ H Q ⟨W, F, ρ, s, q⟩ => ?_
  refine ⟨W, F, ρ, s, (Hold.bind q).mono fun d z W1 H1 v e1 s1 r1 => ?_⟩
  refine ⟨by show 2 ≤ sizeLine; decide, fun tp htp => ?_⟩
  have s2 : Sim X.K Tb B W1 F ρ σ (upd H1 tp (.tup [.ty S, .ty T])) := s1.laid htp
  have r := r1 W1 F _ (Ext.refl _) s2
  exact ⟨v, tp, _, _, [.type S, .type T], _, rfl, upd_same, .cons (.ty S) (.cons (.ty T) .nil), ty_of s2.w r, kit_any2 (ks d) (kt d), z W1 _ _ e1 s2 (.bl _)⟩
end
end Dn
end
section
set_option Elab.async false
set_option linter.all false
set_option autoImplicit false
set_option maxRecDepth 100000
/-! Dn7: sorts, least ones, repr, sets, slices, methods of lists. -/
namespace Dn
open PySem PySem.Spec PyProof.Rows L2 LamX

section
variable {Tb : List (Addr × Str)} {B : Wd → V → (List PyData → T PyData) → Prop} {X : Cx}
theorem decB {x y : Bool} : decide (x = y) = (x == y) := by cases x <;> cases y <;> rfl
theorem ok_isB : OpOk Tb B X.K rIsB (isBD id) := fun W F ρ σ H x y d e Q s a b q => by
  cases d with
  | bool i => cases e with
    | bool j => exact ⟨i, j, a.bool, b.bool, by rw [decB]; exact q W H _ (Ext.refl _) s (.bl _)⟩
    | _ => exact q.elim
  | _ => exact q.elim
theorem ok_notB : OpOk Tb B X.K rNotB (isBD not) := fun W F ρ σ H x y d e Q s a b q => by
  cases d with
  | bool i => cases e with
    | bool j => exact ⟨i, j, a.bool, b.bool, by rw [decB]; exact q W H _ (Ext.refl _) s (.bl _)⟩
    | _ => exact q.elim
  | _ => exact q.elim
/-! ### == and != with texts at once -/
def eqA (x y : PyData) : T AV := match x, y with
  | .str a, .str b => .ret (.sh (.bool (decide (a = b))))
  | x, y => eqD x y
def neA (x y : PyData) : T AV := match x, y with
  | .str a, .str b => .ret (.sh (.bool (!decide (a = b))))
  | x, y => neD x y
theorem strV {a b : Str} : decide (V.str a = V.str b) = decide (a = b) := by
  by_cases h : a = b
  · subst h; simp
  · rw [decide_eq_false h, decide_eq_false fun z => h (V.str.inj z)]
theorem ok_eqA : OpOk Tb B X.K (fun x y H Q => rEq x y H Q ∨ rEqD X.K x y H Q) eqA := fun W F ρ σ H x y d e Q s a b q => by
  cases d with
  | str i => cases e with
    | str j =>
      cases a
      cases b
      exact .inl ⟨rfl, by rw [strV]; exact q W H _ (Ext.refl _) s (.bl _)⟩
    | _ => exact .inr (ok_eq W F ρ σ H x y _ _ Q s a b q)
  | _ => exact .inr (ok_eq W F ρ σ H x y _ _ Q s a b q)
theorem ok_neA : OpOk Tb B X.K (fun x y H Q => rNe x y H Q ∨ rNeD X.K x y H Q) neA := fun W F ρ σ H x y d e Q s a b q => by
  cases d with
  | str i => cases e with
    | str j =>
      cases a
      cases b
      exact .inl ⟨rfl, by rw [strV]; exact q W H _ (Ext.refl _) s (.bl _)⟩
    | _ => exact .inr (ok_ne W F ρ σ H x y _ _ Q s a b q)
  | _ => exact .inr (ok_ne W F ρ σ H x y _ _ Q s a b q)
/-! ### sorted(list) of alike data -/
def rSortD (K : PySem.W.Frag) : List V → Hp → VK → Prop := fun vs H Q => ∃ (Φ : Hp) (a : Addr) (xs : List V) (ds : List PyData), (∀ b o, Φ b = some o → H b = some o) ∧ vs = [.ref a] ∧ SqL K H a xs ∧ DpAll K Φ xs ds ∧ PySem.W.AllAlike ds ∧ Sx.SortableX ds ∧ (∀ d ∈ ds, d.depth ≤ 64) ∧
  ∀ (ys : List V) (p : Addr), DpAll K Φ ys (ds.mergeSort (PySem.W.dataLe false id)) → H p = none → Q (.ref p) (upd H p (.lst ys))
theorem each_of {K : PySem.W.Frag} {H : Hp} : ∀ {ds : List PyData} {vs : List V} {us : List Value}, DpAll K H vs ds → Vals vs us → PySem.W.EachIs (fun u d => ∃ v, L2.RelV v u ∧ Dp K H v d) us ds
  | [], _, _, h, r => by
    cases h
    cases r
    exact .nil
  | d :: ds, _, _, h, r => by
    cases h with
    | cons h1 h2 =>
      cases r with
      | cons r1 r2 => exact .cons ⟨_, r1, h1⟩ (each_of h2 r2)
theorem of_each {K : PySem.W.Frag} {H : Hp} : ∀ {ds : List PyData} {us : List Value}, PySem.W.EachIs (fun u d => ∃ v, L2.RelV v u ∧ Dp K H v d) us ds → ∃ vs, Vals vs us ∧ DpAll K H vs ds
  | _, _, .nil => ⟨[], .nil, .nil⟩
  | _, _, .cons ⟨v, r, h⟩ t => by
    obtain ⟨vs, r2, h2⟩ := of_each t
    exact ⟨v :: vs, .cons r r2, .cons h h2⟩
theorem each_imp {α β : Type} {R S : α → β → Prop} (f : ∀ a b, R a b → S a b) : ∀ {l : List α} {m : List β}, PySem.W.EachIs R l m → PySem.W.EachIs S l m
  | _, _, .nil => .nil
  | _, _, .cons h t => .cons (f _ _ h) (each_imp f t)
theorem cr_sortD (hu : X.A.units + 200 < cLine) : CallR X (.builtin "sorted") (rSortD X.K) := by
  intro pins s σ H vs us Q I r h
  obtain ⟨Φ, a, xs, ds, le, rfl, hs, hd, hal, hsk, hdp, q⟩ := h
  obtain ⟨its, rv, hl, hz⟩ := I.list hs
  rw [Vals.ref1 r]
  have hlen := DpAll.len hd
  refine Sx.sorted_x (bs := ds) (enc := id) (R := fun u d => ∃ v, L2.RelV v u ∧ Dp X.K Φ v d) hl.isList (each_of hd rv) (each_imp (fun u d ⟨v, r1, h1⟩ => Dp.reads I d v u (dp_le le _ _ h1) r1) (each_of hd rv)) (by rw [List.map_id]; exact hal) (by rw [List.map_id]; exact hsk) (by omega) (fun b hb => ?_) fun out hol ho => ?_
  · have h1 := hdp b hb
    show X.A.units + 2 + (id b).depth < cLine
    have h2 : (id b).depth = b.depth := rfl
    omega
  obtain ⟨ys, rv2, hd2⟩ := of_each ho
  obtain ⟨ep, he'⟩ := PyProof.Rows.sortedAll_at s.heap its out.toArray
  have hyl : ys.length ≤ sizeLine := by rw [rv2.length, hol]; omega
  exact ⟨.ref _, upd H (s.heap.objs.size + 1) (.lst ys), I.laid (t' := s.toks) (fun _ _ => PyProof.Rows.sortedAll_old) (Nat.le_succ _) ⟨hyl, out, ep, rv2, he'⟩, rfl, q _ _ hd2 (I.hok.fresh (Nat.le_succ _))⟩
def alikeB (ds : List PyData) : Bool := ds.all fun d => ds.all fun e => PySem.W.alike d e
def isTup : PyData → Bool
  | .tuple _ => true
  | _ => false
def isTup1 : PyData → Bool
  | .tuple (_ :: _) => true
  | _ => false
def sortB (ds : List PyData) : Bool := (ds.all isTup || ds.all fun d => !isNone d && !isTup d) && ds.all fun d => decide (d.depth ≤ 64)
def sortOf (ds : List PyData) : List PyData := ds.mergeSort (PySem.W.dataLe false id)
def sortedL (ds : List PyData) : T AV := if (alikeB ds && sortB ds) = true then .ret (.own (sortOf ds)) else .err
def sortedD : List PyData → T AV := one1 fun d => match d with
  | .list ds => sortedL ds
  | _ => .err
theorem alikeB_ok {ds : List PyData} (h : alikeB ds = true) : PySem.W.AllAlike ds := fun d hd e he => List.all_eq_true.mp (List.all_eq_true.mp h d hd) e he
theorem sortB_ok {ds : List PyData} (h : sortB ds = true) : Sx.SortableX ds ∧ ∀ d ∈ ds, d.depth ≤ 64 := by
  obtain ⟨h1, h2⟩ := and2 h
  refine ⟨?_, fun d hd => of_decide_eq_true (List.all_eq_true.mp h2 d hd)⟩
  rcases Bool.or_eq_true_iff.mp h1 with h1 | h1
  · refine .inl fun d hd => ?_
    have q := List.all_eq_true.mp h1 d hd
    unfold isTup at q
    split at q
    · exact ⟨_, rfl⟩
    · cases q
  · refine .inr fun d hd => ?_
    obtain ⟨q1, q2⟩ := and2 (List.all_eq_true.mp h1 d hd)
    refine ⟨fun z => ?_, fun xs z => ?_⟩
    · subst z
      cases q1
    · subst z
      cases q2
theorem mem_sortOf {ds : List PyData} {d : PyData} : d ∈ sortOf ds ↔ d ∈ ds := List.mem_mergeSort
/-- data that come with less of the heap -/
theorem ok_sorted : CallOk Tb B X.K (rSortD X.K) sortedD := call1 fun W F ρ σ H v d Q s a q => by
  cases d with
  | list ds =>
    obtain ⟨p, vs, rfl, h1, hz, h2⟩ := a.list
    obtain ⟨hb, q⟩ := hold_if q
    obtain ⟨b1, b2⟩ := and2 hb
    obtain ⟨k1, k2⟩ := sortB_ok b2
    exact ⟨W.Φ, p, vs, ds, s.w.fz, rfl, h1, h2, alikeB_ok b1, k1, k2, fun ys p' hy hp => s.mkL hy (by
      have e1 := DpAll.len hy
      have e2 := DpAll.len h2
      rw [List.length_mergeSort] at e1
      omega) q p' hp⟩
  | _ => exact q.elim
/-! ### min, max of a list of alike data -/
def rBestD (K : PySem.W.Frag) (best : PyData → List PyData → PyData) : List V → Hp → VK → Prop := fun vs H Q => ∃ (a : Addr) (xs : List V) (d : PyData) (ds : List PyData), vs = [.ref a] ∧ SqL K H a xs ∧ DpAll K H xs (d :: ds) ∧ PySem.W.AlikeAll (d :: ds) ∧ PyData.canLayAll0 (d :: ds) = true ∧ PyData.depthAll (d :: ds) ≤ 64 ∧
  ∀ (i : Nat) (v : V), xs[i]? = some v → (d :: ds)[i]? = some (best d ds) → Q v H
theorem best_at {pins : List (Addr × Obj)} {σ : L2.St} {H : Hp} {s : Shared} {xs : List V} {ds : List PyData} {its : List Value} {h' : Heap} {v : Value} {i : Nat} {e : PyData} {bs : List Addr} (I : Inv X pins σ H s) (hd : DpAll X.K H xs ds) (rv : Vals xs its) (hc : PyData.canLayAll0 ds = true) (hv : its[i]? = some v) (hr : Reads h' v e bs) (he : e ∈ ds)
    (hk : ∀ b o, s.heap.get? b = some o → h'.get? b = some o) : ∃ x, xs[i]? = some x ∧ L2.RelV x v ∧ ds[i]? = some e := by
  obtain ⟨as, ra⟩ := Dp.readsAll I ds _ its hd rv
  have e1 := SeqAt.readsAll_map ds its as hc ra
  have lay : ∀ {l : List PyData} {y : PyData}, PyData.canLayAll0 l = true → y ∈ l → y.canLay0 = true := fun {l} => by
    induction l with
    | nil => intro y _ h; cases h
    | cons a l ih =>
      intro y h m
      have h : (a.canLay0 && PyData.canLayAll0 l) = true := h
      obtain ⟨h1, h2⟩ := and2 h
      rcases List.mem_cons.mp m with rfl | m
      · exact h1
      · exact ih h2 m
  cases hx : xs[i]? with
  | none =>
    rw [rv.none_of hx] at hv
    cases hv
  | some x =>
    obtain ⟨u, hu, ru⟩ := rv.get hx
    rw [hv] at hu
    cases hu
    obtain ⟨y, hy, hyd⟩ := DpAll.getV hd hx
    obtain ⟨as2, r2⟩ := Dp.reads I y x v hyd ru
    have r3 := PyProof.Rows.Reads.keeps hk r2
    have q1 := SeqAt.readOf_eq (lay hc he) hr
    have q2 := SeqAt.readOf_eq (lay hc (List.mem_of_getElem? hy)) r3
    rw [q1] at q2
    subst q2
    exact ⟨x, rfl, ru, hy⟩
theorem fold_mem {f : PyData → PyData → Bool} : ∀ (ds : List PyData) (d : PyData), ds.foldl (fun a y => if f a y = true then y else a) d ∈ d :: ds
  | [], d => by simp
  | y :: ds, d => by
    rw [List.foldl_cons]
    have ih := fold_mem (f := f) ds (if f d y = true then y else d)
    split at ih
    · rename_i h
      rw [if_pos h]
      exact List.mem_cons_of_mem _ ih
    · rename_i h
      rw [if_neg h]
      rcases List.mem_cons.mp ih with h2 | h2
      · rw [h2]; exact List.mem_cons_self
      · exact List.mem_cons_of_mem _ (List.mem_cons_of_mem _ h2)
theorem cr_minD (hc : X.calm = true) (hu : X.A.units + 200 < cLine) : CallR X (.builtin "min") (rBestD X.K PySem.W.minD) := by
  intro pins s σ H vs us Q I r h
  obtain ⟨a, xs, d, ds, rfl, hs, hd, hal, hcl, hdp, q⟩ := h
  obtain ⟨its, rv, hl, hz⟩ := I.list hs
  rw [Vals.ref1 r]
  obtain ⟨as, ra⟩ := Dp.readsAll I (d :: ds) _ its hd rv
  refine PySem.W.min_list_data (I.ok.hd hc) hl.isList (by simpa using ra) hal (by omega) fun i v h' tk bs hv hr hk => ?_
  obtain ⟨x, hx, rx, he⟩ := best_at I hd rv hcl (by simpa using hv) hr (fold_mem ds d) hk
  exact ⟨x, H, I.kept (t' := tk) hk, rx, q i x hx he⟩
theorem cr_maxD (hc : X.calm = true) (hu : X.A.units + 200 < cLine) : CallR X (.builtin "max") (rBestD X.K PySem.W.maxD) := by
  intro pins s σ H vs us Q I r h
  obtain ⟨a, xs, d, ds, rfl, hs, hd, hal, hcl, hdp, q⟩ := h
  obtain ⟨its, rv, hl, hz⟩ := I.list hs
  rw [Vals.ref1 r]
  obtain ⟨as, ra⟩ := Dp.readsAll I (d :: ds) _ its hd rv
  refine PySem.W.max_list_data (I.ok.hd hc) hl.isList (by simpa using ra) hal (by omega) fun i v h' tk bs hv hr hk => ?_
  obtain ⟨x, hx, rx, he⟩ := best_at I hd rv hcl (by simpa using hv) hr (fold_mem ds d) hk
  exact ⟨x, H, I.kept (t' := tk) hk, rx, q i x hx he⟩
def bestD (best : PyData → List PyData → PyData) : List PyData → T AV := one1 fun d => match d with
  | .list (d :: ds) => if ((alikeB (d :: ds) && (d :: ds).all fun e => !isNone e) && (PyData.canLayAll0 (d :: ds) && decide (PyData.depthAll (d :: ds) ≤ 64))) = true then .ret (.sh (best d ds)) else .err
  | _ => .err
theorem ok_best {best : PyData → List PyData → PyData} : CallOk Tb B X.K (rBestD X.K best) (bestD best) := call1 fun W F ρ σ H v d Q s a q => by
  cases d with
  | list es => cases es with
    | nil => exact q.elim
    | cons d ds =>
      obtain ⟨p, vs, rfl, h1, hz, h2⟩ := a.list
      obtain ⟨hb, q⟩ := hold_if q
      obtain ⟨b1, b2⟩ := and2 hb
      obtain ⟨b3, b4⟩ := and2 b1
      obtain ⟨b5, b6⟩ := and2 b2
      refine ⟨p, vs, d, ds, rfl, h1, dpAll_le s.w.fz _ _ h2, ⟨fun x hx y hy => alikeB_ok b3 x hx y hy, fun x hx z => ?_⟩, b5, of_decide_eq_true b6, fun i v hv he => ?_⟩
      · subst z
        have := List.all_eq_true.mp b4 _ hx
        cases this
      · obtain ⟨w, hw, hd⟩ := DpAll.get h2 he
        rw [hv] at hw
        cases hw
        exact q W H v (Ext.refl _) s hd
  | _ => exact q.elim
/-! ### repr -/
def rReprD (K : PySem.W.Frag) : List V → Hp → VK → Prop := fun vs H Q => ∃ (a : Addr) (d : PyData), vs = [.ref a] ∧ Dp K H (.ref a) d ∧ d.showable = true ∧ d.hasDict = false ∧ d.depth ≤ 64 ∧ d.shown.length ≤ sizeLine ∧ Q (.str d.shown) H
theorem cr_reprD (hg : X.A.guards = some []) (hu : X.A.units + 200 < cLine) : CallR X (.builtin "repr") (rReprD X.K) := by
  intro pins s σ H vs us Q I r h
  obtain ⟨a, d, rfl, hd, hs, hh, hdp, hz, q⟩ := h
  rw [Vals.ref1 r]
  obtain ⟨as, ra⟩ := Dp.reads I d _ (.ref a) hd rfl
  exact repr_of_reads' ra hs (fun z => by rw [hh] at z; cases z) hg (by omega) (fun _ _ h => h) (fun h' u tk hk => ⟨.str d.shown, H, I.kept (t' := tk) hk, ⟨u, rfl⟩, q⟩) hz
def isRef : PyData → Bool
  | .list _ => true
  | .tuple _ => true
  | _ => false
def reprD : List PyData → T AV := one1 fun d => if ((isRef d && d.showable) && ((!d.hasDict && decide (d.depth ≤ 64)) && decide (d.shown.length ≤ sizeLine))) = true then .ret (.sh (.str d.shown)) else .err
theorem ok_repr : CallOk Tb B X.K (rReprD X.K) reprD := call1 fun W F ρ σ H v d Q s a q => by
  obtain ⟨hb, q⟩ := hold_if q
  obtain ⟨b1, b2⟩ := and2 hb
  obtain ⟨b3, b4⟩ := and2 b1
  obtain ⟨b5, b6⟩ := and2 b2
  obtain ⟨b7, b8⟩ := and2 b5
  have hv : ∃ p, v = .ref p := by
    cases d with
    | list es => obtain ⟨p, vs, h, _⟩ := a.list; exact ⟨p, h⟩
    | tuple es => obtain ⟨p, vs, h, _⟩ := Rb.tup s.w a; exact ⟨p, h⟩
    | _ => cases b3
  obtain ⟨p, rfl⟩ := hv
  exact ⟨p, d, rfl, a.dp s.w, b4, by simpa using b7, of_decide_eq_true b8, of_decide_eq_true b6, q W H _ (Ext.refl _) s (.str _)⟩
/-! ### slices -/
def cutD (ds : List PyData) (lo hi : Option Int) : List PyData := (ds.drop (HT.sIx ds.length 0 lo)).take (HT.sIx ds.length ds.length hi - HT.sIx ds.length 0 lo)
def slD (d : PyData) (lo hi : Option Int) : T AV := match d with
  | .list ds => .ret (.own (cutD ds lo hi))
  | .tuple ds => .ret (.sh (.tuple (cutD ds lo hi)))
  | _ => .err
theorem SlR.or {r r' : V → Option Int → Option Int → Hp → VK → Prop} (h : SlR X r) (h' : SlR X r') : SlR X fun x lo hi H Q => r x lo hi H Q ∨ r' x lo hi H Q :=
  fun pins s σ H x v vl vu lo hi sl Q I a b c d z => z.elim (h pins s σ H x v vl vu lo hi sl Q I a b c d) (h' pins s σ H x v vl vu lo hi sl Q I a b c d)
theorem cut_len {α : Type} (l : List α) (a b : Nat) : ((l.drop a).take b).length ≤ l.length := by simp; omega
theorem sl_read {K : PySem.W.Frag} {W : Wd} {F H : Hp} {ρ : Env} {σ : L2.St} {Q : VK} {v : V} {d : PyData} {lo hi : Option Int} (s : Sim K Tb B W F ρ σ H) (a : Rb K W H v d) (q : Hold (slD d lo hi) (RPost K Tb B W F ρ σ Q)) : rSlL K v lo hi H Q ∨ rSlA K v lo hi H Q := by
  cases d with
  | list ds =>
    obtain ⟨p, vs, rfl, h1, hz, h2⟩ := a.list
    refine .inl ⟨p, vs, rfl, h1, s.mkL (ds := cutD ds lo hi) ?_ (Nat.le_trans (cut_len _ _ _) hz) q⟩
    unfold cutV cutD
    rw [DpAll.len h2]
    exact DpAll.take _ (DpAll.drop _ h2)
  | tuple ds =>
    obtain ⟨p, vs, rfl, h0, h1, hz, h2⟩ := Rb.tup s.w a
    have hc : DpAll K W.Φ (cutV vs lo hi) (cutD ds lo hi) := by
      unfold cutV cutD
      rw [DpAll.len h2]
      exact DpAll.take _ (DpAll.drop _ h2)
    refine .inr ⟨p, vs, rfl, h1, fun e => ?_, fun _ => s.mkT hc (Nat.le_trans (cut_len _ _ _) hz) q⟩
    have : cutD ds lo hi = ds := by
      unfold cutD
      rw [DpAll.len h2] at e
      rw [e.1, e.2, List.drop_zero, Nat.sub_zero, List.take_length]
    have q : RPost K Tb B W F ρ σ Q (.sh (.tuple (cutD ds lo hi))) := q
    rw [this] at q
    exact q W H _ (Ext.refl _) s (.tup h0 h2)
  | _ => exact q.elim
theorem pd_slice {e : Expr} {lo hi : Option Expr} {f : Env → T PyData} {fl fh : Env → T (Option Int)} {pos p2 : Pos} (he : PB Tb B X e f) (hl : PO X lo (ro (Tb := Tb) (B := B) X.K fl)) (hh : PO X hi (ro (Tb := Tb) (B := B) X.K fh)) :
    PD Tb B X (.Subscript e (.Slice lo hi none p2) pos) fun ρ => (f ρ).bind fun d => (fl ρ).bind fun l => (fh ρ).bind fun h => slD d l h := by
  refine PE.weaken (pe_slice (SlR.or sl_list sl_tupA) he hl hh) fun σ H Q ⟨W, F, ρ, s, q⟩ => ⟨W, F, ρ, s, (Hold.bind q).mono fun d z W1 H1 v e1 s1 r1 => ?_⟩
  refine ⟨W1, F, ρ, s1, (Hold.bind z).mono fun l z W2 H2 e2 s2 => ⟨W2, F, ρ, s2, (Hold.bind z).mono fun h z W3 H3 e3 s3 => ?_⟩⟩
  exact sl_read s3 (r1 W3 F H3 (e2.trans e3) s3) (z.mono fun av => RPost.ext ((e1.trans e2).trans e3))
/-! ### list(range(..)), tuple(range(..)) -/
theorem rg_data {K : PySem.W.Frag} {H : Hp} (a b : Int) : DpAll K H (rgV a b) (upFrom a (b - a).toNat) := by
  unfold rgV upFrom
  refine DpAll.of (by simp) fun i v d h1 h2 => ?_
  rw [List.getElem?_map] at h1 h2
  cases e : (List.range (b - a).toNat)[i]? with
  | none => rw [e] at h1; cases h1
  | some j =>
    rw [e] at h1 h2
    cases h1
    cases h2
    exact .int _
theorem RgOk.of_le' {j : Int} (h : -100000 ≤ j ∧ j ≤ 100000) : RgOk 0 j := ⟨by omega, by omega, by omega, by omega, by omega⟩
def rgD (mk : List PyData → AV) : PyData → T AV
  | .int j => if -100000 ≤ j ∧ j ≤ 100000 then .ret (mk (upFrom 0 j.toNat)) else .err
  | _ => .err
theorem pd_listRg {a : Expr} {f : Env → T PyData} {p pr pos posr : Pos} (hc : X.calm = true) (hg : Gl X "list") (hm : X.mg "list" = none) (hgr : Gl X "range") (hmr : X.mg "range" = none) (ha : PB Tb B X a f)
    (na : starEach [.Call (.Name "range" pr) [a] [] posr] X.env = (false, eval (.Call (.Name "range" pr) [a] [] posr) X.env) :: starEach [] X.env := by rfl) (nr : starEach [a] X.env = (false, eval a X.env) :: starEach [] X.env := by rfl) :
    PD Tb B X (.Call (.Name "list" p) [.Call (.Name "range" pr) [a] [] posr] [] pos) fun ρ => (f ρ).bind (rgD .own) := by
  refine PE.weaken (pe_listRg hc hg hm (prg_1 hgr hmr ha nr) na) fun σ H Q ⟨W, F, ρ, s, q⟩ => ⟨W, F, ρ, s, (Hold.bind q).mono fun d z W1 H1 v e1 s1 r1 => ?_⟩
  cases d with
  | int j =>
    obtain ⟨hz, z⟩ := hold_if z
    refine ⟨j, (r1 W1 F H1 (Ext.refl _) s1).int, RgOk.of_le' hz, ?_⟩
    have hd : DpAll X.K W1.Φ (rgV 0 j) (upFrom 0 j.toNat) := by
      have := rg_data (K := X.K) (H := W1.Φ) 0 j
      rwa [show (j - 0).toNat = j.toNat by rw [Int.sub_zero]] at this
    have hl : (rgV 0 j).length ≤ sizeLine := by
      rw [rgV_length]
      have h1 : (100000 : Nat) ≤ sizeLine := by decide
      omega
    exact s1.mkL hd hl (RPost.ext e1 z)
  | _ => exact z.elim
end
end Dn
end
section
set_option Elab.async false
set_option linter.all false
set_option autoImplicit false
set_option maxRecDepth 100000
/-! Dn8: sets of numbers. -/
namespace Dn
open PySem PySem.Spec PyProof.Rows L2 LamX

/-! ### set(a list of numbers) -/
abbrev emptyS (w : World) : Obj := { cls := .type "set", dict := none, data := .set #[] 0 (.fresh 0 0 (!w.params.followText "set-order")) }
/-- what set.__init__ leaves -/
def SetLeft (w : World) (s : Shared) (ns : List Int) (s' : Shared) : Prop := ∃ h' tk c, s' = { s with heap := h', toks := tk } ∧ SetR w h' s.heap.objs.size (fun j => decide (j ∈ ns)) c ∧ ∀ b o, s.heap.get? b = some o → h'.get? b = some o
section
variable {P : Program} {w : World} {A : Around} {E : Value → Shared → Prop} {s : Shared}
set_option maxHeartbeats 1600000 in
theorem set_init_list {l : Addr} {items : Array Value} (ns : List Int) (hh : A.handled = none) (hl : s.heap.IsList l items) (hit : IntsAre items.toList ns) (hb : ns.length + 1 < scanBound) {Q : PySem.Fin → Shared → Prop} (hq : ∀ s', SetLeft w s ns s' → Q (.done (.ret .none)) s') :
    wpAny (model P w) A (Builtin.«set.__init__» ⟨[.ref s.heap.objs.size, .ref l], []⟩) Q E { s with heap := s.heap.push (emptyS w) } := by
  have hisz : items.size = ns.length := by
    have q := IntsAre.length hit
    rwa [Array.length_toList] at q
  have hS : (s.heap.push (emptyS w)).get? s.heap.objs.size = some (emptyS w) := Heap.get?_push_size _ rfl
  obtain ⟨⟨lc, ldict, ldata, lslots⟩, hol, hcl, nl, hdl⟩ := hl
  simp only at hcl hdl
  subst hcl hdl
  have hol' := Heap.get?_push_of_some (emptyS w) hol
  have ca := F.sub_list_set
  have cb := F.sub_list_frozenset
  have cc : (Value.type "list" == Value.type "dict") = false := by decide
  have hl1 : (s.heap.push (emptyS w)).IsList l items := ⟨_, hol', rfl, nl, rfl⟩
  have hT : Shared.TypeIs { s with heap := s.heap.push (emptyS w) } (.ref s.heap.objs.size) "set" := ⟨_, hS, rfl⟩
  unfold Builtin.«set.__init__» noKeywords Builtin.Frozenset.updateFrom
  generalize hPI : pyIter = PI
  wp_walk
  subst hPI
  refine wpAny_pyIter_list hl1 (wpAny_bind (wpAny_runValue ?_))
  have ltl : l < s.heap.objs.size := Heap.lt_size hol
  have sz : (s.heap.push (emptyS w)).objs.size = s.heap.objs.size + 1 := Heap.size_push ..
  have ne1 : l ≠ (s.heap.push (emptyS w)).objs.size := by
    rw [sz]
    exact Nat.ne_of_lt (Nat.lt_succ_of_lt ltl)
  have out : s.heap.objs.size ∉ [(s.heap.push (emptyS w)).objs.size, l] := by
    intro z
    rcases List.mem_cons.mp z with z | z
    · rw [sz] at z
      exact absurd z (by intro z; omega)
    · exact absurd (List.mem_singleton.mp z) (Nat.ne_of_gt ltl)
  refine set_update_ints ((Walks.list (by simp [hh]) _ l ne1 items).toS) s.heap.objs.size out ns hisz hb (fun i v hv => ?_) (items.size - 0) 0 _ (by omega) (Nat.zero_le _)
    ⟨⟨_, Heap.get?_push_size _ rfl, rfl, rfl⟩, hl1.push _⟩ ⟨0, Nat.le_refl 0, setR_new_at (Heap.get?_push_of_some _ hS)⟩ fun s' c' hm hc' hS' => ?_
  · have hi : i < ns.length := by rw [← hisz]; exact (Array.getElem?_eq_some_iff.mp hv).1
    obtain ⟨t, e⟩ := IntsAre.int_at hit i v (by rw [Array.getElem?_toList]; exact hv)
    exact ⟨ns[i], t, List.getElem?_eq_getElem hi, by rw [e, List.getD_eq_getElem?_getD, List.getElem?_eq_getElem hi] <;> rfl⟩
  obtain ⟨h', g2, d', tk', os'⟩ := s'
  obtain rfl : g2 = s.gens := hm.gens
  obtain rfl : d' = s.drawn := hm.drawn
  obtain rfl : os' = s.os := hm.os
  refine (wpAny_pure ?_ : wpAny (model P w) A (pure ()) (fun _ s' => wpAny (model P w) A (ret Value.none) Q E s') E _)
  refine wpAny_pure (hq _ ⟨h', tk', c', rfl, hS', fun b o e => ?_⟩)
  have hb0 : b < s.heap.objs.size := Heap.lt_size e
  refine hm.heap b o ?_ (Heap.get?_push_of_some _ (Heap.get?_push_of_some _ e))
  intro z
  rcases List.mem_cons.mp z with z | z
  · exact absurd z (Nat.ne_of_lt hb0)
  · have q := List.mem_singleton.mp z
    rw [sz] at q
    exact absurd q (Nat.ne_of_lt (Nat.lt_succ_of_lt hb0))
set_option maxHeartbeats 1600000 in
/-- set(l), with all that iteration asks -/
theorem set_of_list {l : Addr} {items : Array Value} (ns : List Int) {Q : Value → Shared → Prop} (hh : A.handled = none) (hl : s.heap.IsList l items) (hit : IntsAre items.toList ns) (hb : ns.length + 1 < scanBound)
    (h : ∀ s', SetLeft w s ns s' → Q (.ref s.heap.objs.size) s') : wpAny (model P w) A (call (.type "set") [.ref l]) Q E s := by
  have a1 := F.called_set.notType
  have a2 := F.called_set.canCreate
  have a3 := F.typeCall_set_1 (.ref l)
  have a4 := F.called_set.made
  have a5 := F.called_set.sub
  obtain ⟨mc, mt, a6⟩ := F.called_set.mro
  refine wpAny_call (codeAny_of_tree (?_ : wpAny _ _ (callAny (.type "set") _) _ _ _))
  refine wpAny_pure ⟨Code.quiet_builtin _ (by decide +kernel), codeAny_builtin F.entry_type_call ?_⟩
  rw [Around.under_plain (weight_type_call_type "set" [.ref l] []) rfl]
  repeat (any_goals (first | assumption | wp_step))
  refine codeAny_mono (code_set_led1 (.ref l) (E := E) (Q₁ := fun v s₁ => v = .ref s.heap.objs.size ∧ s₁ = { s with heap := s.heap.push (emptyS w) }) ⟨rfl, rfl⟩) fun r s₁ hr => ?_
  cases r with
  | error e => exact hr
  | ok fl => cases fl with
    | ret v =>
      obtain ⟨rfl, rfl⟩ := hr
      have hT : Shared.TypeIs { s with heap := s.heap.push (emptyS w) } (.ref s.heap.objs.size) "set" := ⟨_, Heap.get?_push_size _ rfl, rfl⟩
      have b1 := F.called_set.init.lookup
      have b2 := F.called_set.init.bind (.ref s.heap.objs.size)
      repeat (any_goals (first | assumption | wp_step))
      refine codeAny_mono (codeAny_call_builtin (R := wants (fun r s₂ => r = .none ∧ SetLeft w s ns s₂) E) F.called_set.init.plain F.entry_set_init (check_set_init_1 hT ?_)) fun r2 s2 hr2 => ?_
      · exact set_init_list ns (by first | exact hh | simp [hh]) hl hit hb fun s' left => ⟨rfl, left⟩
      · cases r2 with
        | error e => exact hr2
        | ok fl2 => cases fl2 with
          | ret r =>
            obtain ⟨rfl, left⟩ := hr2
            repeat (any_goals (first | assumption | wp_step))
            exact h _ left
          | _ => exact hr2.elim
    | _ => exact hr.elim
end
section
variable {X : Cx}
/-- the numbers of a list, each once -/
def nub (ns : List Int) : List Int := ns.foldl (fun l k => if l.contains k = true then l else l ++ [k]) []
theorem nub_go (ns : List Int) : ∀ l : List Int, l.Nodup → (ns.foldl (fun l k => if l.contains k = true then l else l ++ [k]) l).Nodup ∧ ∀ j, j ∈ ns.foldl (fun l k => if l.contains k = true then l else l ++ [k]) l ↔ j ∈ l ∨ j ∈ ns := by
  induction ns with
  | nil => exact fun l h => ⟨h, fun j => by simp⟩
  | cons k ns ih =>
    intro l h
    rw [List.foldl_cons]
    by_cases hk : l.contains k = true
    · rw [if_pos hk]
      have hm : k ∈ l := by simpa using hk
      refine ⟨(ih l h).1, fun j => ?_⟩
      rw [(ih l h).2 j, List.mem_cons]
      constructor
      · rintro (q | q)
        · exact .inl q
        · exact .inr (.inr q)
      · rintro (q | q | q)
        · exact .inl q
        · exact .inl (q ▸ hm)
        · exact .inr q
    · rw [if_neg hk]
      have hm : k ∉ l := by simpa using hk
      have h2 : (l ++ [k]).Nodup := List.nodup_append.mpr ⟨h, by simp, fun a ha b hb => by
        rw [List.mem_singleton] at hb
        subst hb
        exact fun e => hm (e ▸ ha)⟩
      refine ⟨(ih _ h2).1, fun j => ?_⟩
      rw [(ih _ h2).2 j, List.mem_append, List.mem_singleton, List.mem_cons, or_assoc]
theorem nub_nodup (ns : List Int) : (nub ns).Nodup := (nub_go ns [] List.nodup_nil).1
theorem mem_nub {ns : List Int} {j : Int} : j ∈ nub ns ↔ j ∈ ns := by
  have q := (nub_go ns [] List.nodup_nil).2 j
  rw [List.mem_nil_iff, false_or] at q
  exact q
theorem SetR.count {w : World} {h : Heap} {a : Addr} {ns : List Int} {c : Nat} (R : SetR w h a (fun j => decide (j ∈ ns)) c) : c = (nub ns).length := by
  obtain ⟨o, es, ep, t, _, _, _, _, hn, hm, _, _, hc, _, _⟩ := R
  have e1 : (es.toList.map keyOf).length = (nub ns).length := by
    refine List.Perm.length_eq ((List.perm_ext_iff_of_nodup hn (nub_nodup ns)).mpr fun k => ?_)
    rw [mem_nub, ← hm k, decide_eq_true_iff]
  rw [← hc, ← e1, List.length_map, Array.length_toList]
/-- set(xs) of a list of numbers -/
def rSetI (K : PySem.W.Frag) (w : World) : List V → Hp → VK → Prop := fun vs H Q => ∃ (l : Addr) (ns : List Int), vs = [.ref l] ∧ SqL K H l (ns.map V.int) ∧ ns.length ≤ 1000 ∧ ∀ p, H p = none → Q (.ref p) (upd H p (SetO w p (fun j => decide (j ∈ ns)) (nub ns).length))
theorem cr_setI (hc : X.calm = true) : CallR X (.type "set") (rSetI X.K X.w) := by
  intro pins s σ H vs us Q I r h
  obtain ⟨l, ns, rfl, hs, hl, q⟩ := h
  obtain ⟨its, rv, pl, hz⟩ := I.list hs
  rw [Vals.ref1 r]
  refine set_of_list ns (I.ok.hd hc) pl.isList (by simpa using ints_of_vals rv) (by unfold scanBound; omega) fun s' ⟨h', tk, c, e, R, k⟩ => ?_
  subst e
  have ec := SetR.count R
  subst ec
  have hn : H s.heap.objs.size = none := I.hok.fresh (Nat.le_refl _)
  exact ⟨.ref _, _, Inv.laid (t' := tk) I k (Nat.le_refl _) (setO_new R), rfl, q _ hn⟩
/-- len(a set) -/
def rLenSet (w : World) : List V → Hp → VK → Prop := fun vs H Q => ∃ (a : Addr) (S : Int → Bool) (n : Nat), vs = [.ref a] ∧ H a = some (SetO w a S n) ∧ n ≤ 100000 ∧ Q (.int (n : Nat)) H
theorem cr_lenSet : CallR X (.builtin "len") (rLenSet X.w) := by
  intro pins s σ H vs us Q I r h
  obtain ⟨a, S, n, rfl, ha, hn, q⟩ := h
  have R := setO_get I ha
  rw [Vals.ref1 r]
  obtain ⟨o, es, ep, t, ho, hex, hd, _, _, _, _, hf, hc, _, _⟩ := R
  exact call_len_set ho hex hd hf (by rw [hc]; omega) ⟨.int n, H, I.tok _, ⟨_, by rw [hc]⟩, q⟩
end
section
variable {Tb : List (Addr × Str)} {B : Wd → V → (List PyData → T PyData) → Prop} {X : Cx}
/-- f(set(e)) of a list of numbers -/
def setI (g : List Int → T AV) : PyData → T AV
  | .list ds => optT (intsOf ds) fun ns => if ns.length ≤ 1000 then g ns else .err
  | _ => .err
theorem setI_read {K : PySem.W.Frag} {w : World} {W : Wd} {F H : Hp} {ρ : Env} {σ : L2.St} {Q : VK} {v : V} {d : PyData} {g : List Int → T AV} (s : Sim K Tb B W F ρ σ H) (a : Rb K W H v d) (q : Hold (setI g d) (RPost K Tb B W F ρ σ Q))
    {R : VK} (h : ∀ ns p, H p = none → ns.length ≤ 1000 → Hold (g ns) (RPost K Tb B W F ρ σ Q) → Sim K Tb B W F ρ σ (upd H p (SetO w p (fun j => decide (j ∈ ns)) (nub ns).length)) → R (.ref p) (upd H p (SetO w p (fun j => decide (j ∈ ns)) (nub ns).length))) : rSetI K w [v] H R := by
  cases d with
  | list ds =>
    obtain ⟨ns, e, q⟩ := hold_opt (o := intsOf ds) q
    obtain ⟨hl, q⟩ := hold_if q
    obtain ⟨p, vs, rfl, h1, hz, h2⟩ := a.list
    rw [(ints_vals h2 e).1] at h1
    exact ⟨p, ns, rfl, h1, hl, fun p hp => h ns p hp hl q (s.laid hp)⟩
  | _ => exact q.elim
theorem nub_le0 (ns : List Int) : ∀ l : List Int, (ns.foldl (fun l k => if l.contains k = true then l else l ++ [k]) l).length ≤ l.length + ns.length := by
  induction ns with
  | nil => exact fun l => Nat.le_refl _
  | cons k ns ih =>
    intro l
    rw [List.foldl_cons, List.length_cons]
    have q := ih (if l.contains k = true then l else l ++ [k])
    split at q
    · rename_i h
      rw [if_pos h]
      omega
    · rename_i h
      rw [if_neg h]
      rw [List.length_append, List.length_singleton] at q
      omega
theorem nub_le (ns : List Int) : (nub ns).length ≤ ns.length := by
  have q := nub_le0 ns []
  rw [List.length_nil, Nat.zero_add] at q
  exact q
def lenSetD : PyData → T AV := setI fun ns => .ret (.sh (.int ((nub ns).length : Nat)))
def sortSetD : PyData → T AV := setI fun ns => if (nub ns).length < 64 then .ret (.own (((nub ns).mergeSort fun a b => decide (a ≤ b)).map PyData.int)) else .err
variable {e : Expr} {f : Env → T PyData} {p1 p2 pos pos2 : Pos}
theorem pd_lenSet (hc : X.calm = true) (hg : Gl X "len") (hm : X.mg "len" = none) (hg2 : Gl X "set") (hm2 : X.mg "set" = none) (he : PB Tb B X e f)
    (h1 : starEach [.Call (.Name "set" p2) [e] [] pos2] X.env = (false, eval (.Call (.Name "set" p2) [e] [] pos2) X.env) :: starEach [] X.env := by rfl) (h2 : starEach [e] X.env = (false, eval e X.env) :: starEach [] X.env := by rfl) :
    PD Tb B X (.Call (.Name "len" p1) [.Call (.Name "set" p2) [e] [] pos2] [] pos) fun ρ => (f ρ).bind lenSetD := by
  refine PE.weaken (pe_callB cr_lenSet hg hm boot_len (pa_cons (pe_callTy (cr_setI hc) hg2 hm2 boot_set (pa_cons he pa_nil h2) (by decide) (by decide) h2) pa_nil h1) (by decide) (by decide) h1) fun σ H Q ⟨W, F, ρ, s, q⟩ => ?_
  refine ⟨W, F, ρ, s, (Hold.bind q).mono fun d z W1 H1 v e1 s1 r1 => ?_⟩
  show rSetI X.K X.w [v] H1 fun x H2 => rLenSet X.w [x] H2 Q
  refine setI_read (w := X.w) s1 (r1 W1 F H1 (Ext.refl _) s1) (z.mono fun av => RPost.ext e1) fun ns p hp hl q s2 => ?_
  have hn := nub_le ns
  exact ⟨p, _, _, rfl, upd_same, by omega, q W1 _ _ (Ext.refl _) s2 (.int _)⟩
theorem sorted_nub {ns ms : List Int} (h : ms.Pairwise (· < ·)) (hm : ∀ k : Int, k ∈ ms ↔ decide (k ∈ ns) = true) : ms = (nub ns).mergeSort fun a b => decide (a ≤ b) := by
  have hp : ms.Perm (nub ns) := (List.perm_ext_iff_of_nodup (h.imp fun {a b} hab e => by omega) (nub_nodup ns)).mpr fun k => by rw [mem_nub, hm, decide_eq_true_iff]
  refine List.Perm.eq_of_pairwise (le := fun a b => decide (a ≤ b) = true) (fun a b _ _ x y => by simp at x y; omega) (h.imp fun {a b} hab => by simp; omega) (List.pairwise_mergeSort (fun a b c x y => by simp at x y ⊢; omega) (fun a b => by simp; omega) _) (hp.trans (List.mergeSort_perm _ _).symm)
theorem pd_sortSet (hc : X.calm = true) (hg : Gl X "sorted") (hm : X.mg "sorted" = none) (hg2 : Gl X "set") (hm2 : X.mg "set" = none) (he : PB Tb B X e f)
    (h1 : starEach [.Call (.Name "set" p2) [e] [] pos2] X.env = (false, eval (.Call (.Name "set" p2) [e] [] pos2) X.env) :: starEach [] X.env := by rfl) (h2 : starEach [e] X.env = (false, eval e X.env) :: starEach [] X.env := by rfl) :
    PD Tb B X (.Call (.Name "sorted" p1) [.Call (.Name "set" p2) [e] [] pos2] [] pos) fun ρ => (f ρ).bind sortSetD := by
  refine PE.weaken (pe_callB (cr_sortedSet hc) hg hm boot_sorted (pa_cons (pe_callTy (cr_setI hc) hg2 hm2 boot_set (pa_cons he pa_nil h2) (by decide) (by decide) h2) pa_nil h1) (by decide) (by decide) h1) fun σ H Q ⟨W, F, ρ, s, q⟩ => ?_
  refine ⟨W, F, ρ, s, (Hold.bind q).mono fun d z W1 H1 v e1 s1 r1 => ?_⟩
  show rSetI X.K X.w [v] H1 fun x H2 => rSortedSet X.w [x] H2 Q
  refine setI_read (w := X.w) s1 (r1 W1 F H1 (Ext.refl _) s1) (z.mono fun av => RPost.ext e1) fun ns p hp hl q s2 => ?_
  obtain ⟨hn, q⟩ := hold_if q
  refine ⟨p, _, _, rfl, upd_same, hn, fun ms p2 hs hm hle hp2 => ?_⟩
  have em := sorted_nub hs hm
  subst em
  have hs : (64 : Nat) ≤ sizeLine := by decide
  exact s2.mkL (DpAll.ints _) (by rw [List.length_map, hle]; omega) q p2 hp2
end
end Dn
end
section
set_option Elab.async false
set_option linter.all false
set_option autoImplicit false
set_option maxRecDepth 100000
/-! Dn9: expressions that change own lists; methods; zip. -/
namespace Dn
open PySem PySem.Spec PyProof.Rows L2 LamX

section
variable (K : PySem.W.Frag) (Tb : List (Addr × Str)) (B : Wd → V → (List PyData → T PyData) → Prop)
/-- a reading that changes own lists -/
def rx (den : Env → T (PyData × Env)) : TE := fun σ H Q => ∃ W F ρ, Sim K Tb B W F ρ σ H ∧ Hold (den ρ) fun p => ∀ W' H' v, Ext W W' → Sim K Tb B W' F p.2 σ H' → Dp K W'.Φ v p.1 → Q v H'
end
abbrev PXD (Tb : List (Addr × Str)) (B : Wd → V → (List PyData → T PyData) → Prop) (X : Cx) (e : Expr) (den : Env → T (PyData × Env)) : Prop := PE X e (rx X.K Tb B den)
section
variable {Tb : List (Addr × Str)} {B : Wd → V → (List PyData → T PyData) → Prop} {X : Cx}
theorem pxd_of {e : Expr} {f : Env → T AV} (h : PD Tb B X e f) : PXD Tb B X e fun ρ => (f ρ).bind fun av => (toS av).bind fun d => .ret (d, ρ) :=
  PE.weaken h fun σ H Q ⟨W, F, ρ, s, q⟩ => ⟨W, F, ρ, s, (Hold.bind q).mono fun av z => RPost.shd ((Hold.bind z).mono fun d z => z)⟩
/-- the own list in slot i -/
def ownAt {α : Type} (i : Nat) (ρ : Env) (f : List PyData → T α) : T α := match ρ[i]? with
  | some (.own ds) => f ds
  | _ => .err
theorem hold_own {α : Type} {i : Nat} {ρ : Env} {f : List PyData → T α} {p : α → Prop} (h : Hold (ownAt i ρ f) p) : ∃ ds, ρ[i]? = some (.own ds) ∧ Hold (f ds) p := by
  unfold ownAt at h
  cases e : ρ[i]? with
  | none => rw [e] at h; exact h.elim
  | some av =>
    rw [e] at h
    cases av with
    | own ds => exact ⟨ds, rfl, h⟩
    | _ => exact h.elim
variable {i : Nat} {o e : Expr} {apos cpos pos : Pos}
theorem own_ty {K : PySem.W.Frag} {H : Hp} {a : Addr} {vs : List V} (h : H a = some (.lst vs)) : tyV K "list" (.ref a) H := Or.inl ⟨rfl, _, Or.inl (Or.inl h)⟩
/-- x.pop(e) -/
def popD (i : Nat) (f : Env → T PyData) (ρ : Env) : T (PyData × Env) := ownAt i ρ fun ds => (f ρ).bind fun d => match d with
  | .int k => match seqIndex? k ds.length with
    | some j => match ds[j]? with
      | some y => if -(2 ^ 63) ≤ k ∧ k < 2 ^ 63 then .ret (y, ρ.set i (.own (ds.eraseIdx j))) else .err
      | none => .err
    | none => .err
  | _ => .err
theorem pxd_pop {f : Env → T PyData} (ho : PE X o (tVar i)) (he : PB Tb B X e f) (hbase : attributeBase o "pop" X.env (eval o X.env) = eval o X.env := by rfl)
    (hfew : ((backTo cpos (starEach [e] X.env)).all (fun x => !x.1) && (backToKw cpos (keywordEach [] X.env)).all (fun x => x.1.isSome) && decide ([e].length + ([] : List Keyword).length + (if ([] : List Keyword).isEmpty then 0 else 1) < 30)) = true := by rfl)
    (hline : (apos.endLine == cpos.line) = true := by rfl) (hs : starEach [e] X.env = (false, eval e X.env) :: starEach [] X.env := by rfl) (hplain : (backTo cpos (starEach [] X.env)).any (·.1) = false := by rfl) :
    PXD Tb B X (.Call (.Attribute o "pop" apos) [e] [] cpos) (popD i f) := by
  refine PE.weaken (pe_bm PySem.F.plainAttrs_list PySem.F.slot_list_pop PySem.F.type_list_pop mt_popAt ho (pa_cons he pa_nil hs) hbase hfew hline hs hplain) fun σ H Q ⟨W, F, ρ, s, q⟩ => ?_
  obtain ⟨ds, ei, q⟩ := hold_own q
  obtain ⟨a, vs, h1, h2, _⟩ := s.s.own i ds ei
  refine ⟨.ref a, h1, own_ty h2, W, F, ρ, s, (Hold.bind q).mono fun d z W1 H1 v e1 s1 r1 => ?_⟩
  obtain ⟨a', vs', g1, g2, gz, _, _, _, g6⟩ := s1.s.own i ds ei
  rw [h1] at g1
  cases g1
  cases d with
  | int k =>
    have hl := DpAll.len g6
    cases ek : seqIndex? k ds.length with
    | none => simp only [ek] at z; exact z.elim
    | some j =>
      simp only [ek] at z
      cases ey : ds[j]? with
      | none => simp only [ey] at z; exact z.elim
      | some y =>
        simp only [ey] at z
        obtain ⟨hk, z⟩ := hold_if z
        obtain ⟨u, hu, hd⟩ := DpAll.get g6 ey
        refine ⟨a, vs', k, j, u, rfl, by rw [(r1 W1 F H1 (Ext.refl _) s1).int], g2, hk.1, hk.2, by rw [hl]; exact ek, hu, ?_⟩
        have hz : (vs'.eraseIdx j).length ≤ sizeLine := Nat.le_trans (List.length_eraseIdx_le _ _) gz
        exact z W1 _ u e1 (s1.mut ei h1 hz (DpAll.erase j g6)) hd
  | _ => exact z.elim
/-- x.pop() -/
def pop0D (i : Nat) (ρ : Env) : T (PyData × Env) := ownAt i ρ fun ds => match ds[ds.length - 1]? with
  | some y => .ret (y, ρ.set i (.own ds.dropLast))
  | none => .err
theorem pxd_pop0 (ho : PE X o (tVar i)) (hbase : attributeBase o "pop" X.env (eval o X.env) = eval o X.env := by rfl) (hline : (apos.endLine == cpos.line) = true := by rfl) : PXD Tb B X (.Call (.Attribute o "pop" apos) [] [] cpos) (pop0D i) := by
  refine PE.weaken (pe_bm0 PySem.F.plainAttrs_list PySem.F.slot_list_pop PySem.F.type_list_pop mt_pop ho hbase hline) fun σ H Q ⟨W, F, ρ, s, q⟩ => ?_
  obtain ⟨ds, ei, q⟩ := hold_own q
  obtain ⟨a, vs, h1, h2, gz, _, _, _, g6⟩ := s.s.own i ds ei
  cases ey : ds[ds.length - 1]? with
  | none => simp only [ey] at q; exact q.elim
  | some y =>
    simp only [ey] at q
    have hl := DpAll.len g6
    obtain ⟨u, hu, hd⟩ := DpAll.get g6 ey
    refine ⟨.ref a, h1, own_ty h2, a, vs, u, rfl, rfl, h2, by rw [hl]; exact hu, ?_⟩
    have hz : vs.dropLast.length ≤ sizeLine := by rw [List.length_dropLast]; omega
    have hd2 : DpAll X.K W.Φ vs.dropLast ds.dropLast := by
      rw [List.dropLast_eq_take, List.dropLast_eq_take, hl]
      exact DpAll.take _ g6
    exact q W _ u (Ext.refl _) (s.mut ei h1 hz hd2) hd
/-- x.append(e) -/
def appD (i : Nat) (f : Env → T (PyData × Env)) (ρ : Env) : T Out := ownAt i ρ fun _ => (f ρ).bind fun p => ownAt i p.2 fun ds => if ds.length < 1000000 then .ret (.nx (p.2.set i (.own (ds ++ [p.1])))) else .err
theorem psd_append {f : Env → T (PyData × Env)} (ho : PE X o (tVar i)) (he : PXD Tb B X e f) (hbase : attributeBase o "append" X.env (eval o X.env) = eval o X.env := by rfl)
    (hfew : ((backTo cpos (starEach [e] X.env)).all (fun x => !x.1) && (backToKw cpos (keywordEach [] X.env)).all (fun x => x.1.isSome) && decide ([e].length + ([] : List Keyword).length + (if ([] : List Keyword).isEmpty then 0 else 1) < 30)) = true := by rfl)
    (hline : (apos.endLine == cpos.line) = true := by rfl) (hs : starEach [e] X.env = (false, eval e X.env) :: starEach [] X.env := by rfl) (hplain : (backTo cpos (starEach [] X.env)).any (·.1) = false := by rfl)
    (hsw : swapsWith (.Call (.Attribute o "append" apos) [e] [] cpos) none pos.line X.env = pure false := by rfl) :
    PSD Tb B X (.Expr (.Call (.Attribute o "append" apos) [e] [] cpos) pos) (appD i f) := by
  refine PS.weaken (ps_expr (pe_bm PySem.F.plainAttrs_list PySem.F.slot_list_append PySem.F.type_list_append mt_append ho (pa_cons he pa_nil hs) hbase hfew hline hs hplain) hsw) fun D σ H ⟨W, F, ρ, s, q⟩ => ?_
  obtain ⟨ds0, ei0, q⟩ := hold_own q
  obtain ⟨a, vs, h1, h2, _⟩ := s.s.own i ds0 ei0
  refine ⟨.ref a, h1, own_ty h2, W, F, ρ, s, (Hold.bind q).mono fun p z W1 H1 v e1 s1 hv => ?_⟩
  obtain ⟨ds, ei, z⟩ := hold_own z
  obtain ⟨hz, z⟩ := hold_if z
  obtain ⟨a', vs', g1, g2, gz, _, _, _, g6⟩ := s1.s.own i ds ei
  rw [h1] at g1
  cases g1
  have hl := DpAll.len g6
  have hs : (1000000 : Nat) ≤ sizeLine := by decide
  exact ⟨a, vs', v, rfl, rfl, g2, by omega, z W1 _ _ e1 (s1.mut ei h1 (by rw [List.length_append, List.length_singleton]; omega) (DpAll.app g6 (DpAll.one hv)))⟩
/-- x.extend(e), e a new list -/
def extD (i : Nat) (f : Env → T AV) (ρ : Env) : T Out := ownAt i ρ fun ds => (f ρ).bind fun av => match av with
  | .own es => if ds.length + es.length ≤ 1000000 then .ret (.nx (ρ.set i (.own (ds ++ es)))) else .err
  | _ => .err
theorem psd_extend {f : Env → T AV} (ho : PE X o (tVar i)) (he : PD Tb B X e f) (hbase : attributeBase o "extend" X.env (eval o X.env) = eval o X.env := by rfl)
    (hfew : ((backTo cpos (starEach [e] X.env)).all (fun x => !x.1) && (backToKw cpos (keywordEach [] X.env)).all (fun x => x.1.isSome) && decide ([e].length + ([] : List Keyword).length + (if ([] : List Keyword).isEmpty then 0 else 1) < 30)) = true := by rfl)
    (hline : (apos.endLine == cpos.line) = true := by rfl) (hs : starEach [e] X.env = (false, eval e X.env) :: starEach [] X.env := by rfl) (hplain : (backTo cpos (starEach [] X.env)).any (·.1) = false := by rfl)
    (hsw : swapsWith (.Call (.Attribute o "extend" apos) [e] [] cpos) none pos.line X.env = pure false := by rfl) :
    PSD Tb B X (.Expr (.Call (.Attribute o "extend" apos) [e] [] cpos) pos) (extD i f) := by
  refine PS.weaken (ps_expr (pe_bm PySem.F.plainAttrs_list PySem.F.slot_list_extend PySem.F.type_list_extend mt_extend ho (pa_cons he pa_nil hs) hbase hfew hline hs hplain) hsw) fun D σ H ⟨W, F, ρ, s, q⟩ => ?_
  obtain ⟨ds, ei, q⟩ := hold_own q
  obtain ⟨a, vs, h1, h2, _⟩ := s.s.own i ds ei
  refine ⟨.ref a, h1, own_ty h2, W, F, ρ, s, (Hold.bind q).mono fun av z => ?_⟩
  cases av with
  | own es =>
    intro W1 H1 b ws e1 hF s1 hwz hwd
    obtain ⟨hz, z⟩ := hold_if z
    obtain ⟨a', vs', g1, g2, gz, _, _, _, g6⟩ := s1.s.own i ds ei
    rw [h1] at g1
    cases g1
    have l1 := DpAll.len g6
    have l2 := DpAll.len hwd
    have hs : (1000000 : Nat) ≤ sizeLine := by decide
    refine ⟨a, b, vs', ws, rfl, rfl, g2, s1.w.fr b _ upd_same, by omega, ?_⟩
    have s2 := s1.mut ei h1 (vs' := vs' ++ ws) (by rw [List.length_append]; omega) (DpAll.app g6 hwd)
    exact z W1 _ _ e1 (s2.frame (upd_le hF))
  | _ => exact z.elim
/-- y = what changes own lists -/
def setXD (j : Nat) (f : Env → T (PyData × Env)) (ρ : Env) : T Out := (f ρ).bind fun p => .ret (.nx (p.2.set j (.sh p.1)))
theorem psd_setX {st : Stmt} {j : Nat} {f : Env → T (PyData × Env)} (h : PS X st (tAsg (rx X.K Tb B f) (gName j))) : PSD Tb B X st (setXD j f) := PS.weaken h fun D σ H ⟨W, F, ρ, s, q⟩ =>
  ⟨W, F, ρ, s, (Hold.bind q).mono fun p z W1 H1 v e1 s1 hv => z W1 _ H1 e1 (s1.set (av := .sh p.1) hv)⟩
/-! ### l.index(x) -/
def lstOf : PyData → Option (List PyData)
  | .list ds => some ds
  | _ => none
def indexL (ds : List PyData) (e : PyData) : T AV := if (okD (.list ds) && okD e) = true then optT (ds.findIdx? fun z => PyData.eqv z e) fun j => .ret (.sh (.int (j : Nat))) else .err
theorem list_ty {K : PySem.W.Frag} {H : Hp} {a : Addr} {vs : List V} (h : SqL K H a vs) : tyV K "list" (.ref a) H := Or.inl ⟨rfl, _, h⟩
theorem pd_index {f g : Env → T PyData} (hu : X.A.units + 200 < cLine) (ho : PB Tb B X o f) (he : PB Tb B X e g) (hbase : attributeBase o "index" X.env (eval o X.env) = eval o X.env := by rfl)
    (hfew : ((backTo cpos (starEach [e] X.env)).all (fun x => !x.1) && (backToKw cpos (keywordEach [] X.env)).all (fun x => x.1.isSome) && decide ([e].length + ([] : List Keyword).length + (if ([] : List Keyword).isEmpty then 0 else 1) < 30)) = true := by rfl)
    (hline : (apos.endLine == cpos.line) = true := by rfl) (hs : starEach [e] X.env = (false, eval e X.env) :: starEach [] X.env := by rfl) (hplain : (backTo cpos (starEach [] X.env)).any (·.1) = false := by rfl) :
    PD Tb B X (.Call (.Attribute o "index" apos) [e] [] cpos) fun ρ => (f ρ).bind fun d => optT (lstOf d) fun ds => (g ρ).bind fun e => indexL ds e := by
  refine PE.weaken (pe_bm PySem.F.plainAttrs_list PySem.F.slot_list_index PySem.F.type_list_index (mt_indexD (by omega)) ho (pa_cons he pa_nil hs) hbase hfew hline hs hplain) fun σ H Q ⟨W, F, ρ, s, q⟩ => ?_
  refine ⟨W, F, ρ, s, (Hold.bind q).mono fun d z W1 H1 v e1 s1 r1 => ?_⟩
  obtain ⟨ds, ed, z⟩ := hold_opt z
  cases d with
  | list ds =>
    cases ed
    have r := r1 W1 F H1 (Ext.refl _) s1
    obtain ⟨a, vs, rfl, h1, _, _⟩ := r.list
    refine ⟨list_ty h1, W1, F, ρ, s1, (Hold.bind z).mono fun y z W2 H2 u e2 s2 r2 => ?_⟩
    obtain ⟨hb, z⟩ := hold_if z
    obtain ⟨b1, b2⟩ := and2 hb
    obtain ⟨j, ej, z⟩ := hold_opt z
    obtain ⟨hj, hjt, hjf⟩ := List.findIdx?_eq_some_iff_getElem.mp ej
    refine ⟨a, u, y, ds, j, ds[j], rfl, rfl, (r1 W2 F H2 e2 s2).dp s2.w, (r2 W2 F H2 (Ext.refl _) s2).dp s2.w, b1, b2, List.getElem?_eq_getElem hj, hjt, fun m z' hm hz' => ?_, z W2 H2 _ (e1.trans e2) s2 (.int _)⟩
    obtain ⟨hm2, rfl⟩ := List.getElem?_eq_some_iff.mp hz'
    have := hjf m hm
    simpa using this
  | _ => cases ed
/-! ### zip, enumerate -/
def zipL (xs ys : List PyData) : List PyData := List.zipWith (fun x y => PyData.tuple [x, y]) xs ys
theorem zip_get {xs ys : List PyData} {i : Nat} {d : PyData} (h : (zipL xs ys)[i]? = some d) : ∃ x y, xs[i]? = some x ∧ ys[i]? = some y ∧ d = .tuple [x, y] := by
  unfold zipL at h
  rw [List.getElem?_zipWith] at h
  cases e1 : xs[i]? with
  | none => rw [e1] at h; cases h
  | some x => cases e2 : ys[i]? with
    | none => rw [e1, e2] at h; cases h
    | some y =>
      rw [e1, e2] at h
      exact ⟨x, y, rfl, rfl, (Option.some.inj h).symm⟩
theorem two_sz {x y : V} : [x, y].length ≤ sizeLine := by show 2 ≤ sizeLine; decide
/-- a pair laid while something is walked -/
theorem Sim.pair {K : PySem.W.Frag} {W : Wd} {F H : Hp} {ρ : Env} {σ : L2.St} {p : Addr} {x y : V} {d e : PyData} (s : Sim K Tb B W F ρ σ H) (hp : H p = none) (hx : Dp K W.Φ x d) (hy : Dp K W.Φ y e) :
    ∃ W', Ext W W' ∧ Sim K Tb B W' F ρ σ (upd H p (.tup [x, y])) ∧ Dp K W'.Φ (.ref p) (.tuple [d, e]) := by
  obtain ⟨W2, e2, s2, h2⟩ := s.made (o := .tup [x, y]) hp (by intro ps z; cases z) (by rintro xs (e | e | ⟨_, e⟩ | ⟨_, e⟩) <;> cases e; exact two_sz)
  exact ⟨W2, e2, s2, .tup (.inl (.inl h2)) (.cons (dp_le e2.φ _ _ hx) (.cons (dp_le e2.φ _ _ hy) .nil))⟩
theorem drives_zipL {K : PySem.W.Frag} {a b : Addr} {xs ys : List V} {ds es : List PyData} {W : Wd} {F H : Hp} (w : WOk Tb W F H) (h : SqL K W.Φ a xs) (hd : DpAll K W.Φ xs ds) (h' : SqL K W.Φ b ys) (hd' : DpAll K W.Φ ys es) : Drives K Tb B (Itz K a b) W (zipL ds es) := by
  have l1 := DpAll.len hd
  have l2 := DpAll.len hd'
  have hl : (zipL ds es).length = min ds.length es.length := List.length_zipWith
  have z1 := sqL_sz w h
  refine ⟨by omega, fun i W' F' H' hi e w' => ?_, fun W' F' H' e w' => ?_, fun i x H1 H2 d W' F' ρ σ hi e s hy => ?_⟩
  · obtain ⟨x, y, hx, hy, _⟩ := zip_get (List.getElem?_eq_getElem hi)
    obtain ⟨v, hv, _⟩ := DpAll.get hd hx
    obtain ⟨u, hu, _⟩ := DpAll.get hd' hy
    exact ⟨xs, ys, v, u, sqL_le w'.fz (sqL_le e.φ h), sqL_le w'.fz (sqL_le e.φ h'), hv, hu⟩
  · exact ⟨xs, ys, sqL_le w'.fz (sqL_le e.φ h), sqL_le w'.fz (sqL_le e.φ h'), by omega⟩
  · obtain ⟨p, v, u, rfl, hp, rfl, hx, hy⟩ := hy
    obtain ⟨dx, dy, gx, gy, rfl⟩ := zip_get hi
    have q1 := hx xs (sqL_le s.w.fz (sqL_le e.φ h))
    have q2 := hy ys (sqL_le s.w.fz (sqL_le e.φ h'))
    obtain ⟨v', hv, hvd⟩ := DpAll.get hd gx
    obtain ⟨u', hu, hud⟩ := DpAll.get hd' gy
    rw [q1] at hv; cases hv
    rw [q2] at hu; cases hu
    exact s.pair hp (dp_le e.φ _ _ hvd) (dp_le e.φ _ _ hud)
theorem drives_zipT {K : PySem.W.Frag} {a b : Addr} {xs ys : List V} {ds es : List PyData} {W : Wd} {F H : Hp} (w : WOk Tb W F H) (h : SqT K W.Φ a xs) (hd : DpAll K W.Φ xs ds) (h' : SqT K W.Φ b ys) (hd' : DpAll K W.Φ ys es) : Drives K Tb B (RZ.ItzT K a b) W (zipL ds es) := by
  have l1 := DpAll.len hd
  have l2 := DpAll.len hd'
  have hl : (zipL ds es).length = min ds.length es.length := List.length_zipWith
  have z1 := sqT_sz w h
  refine ⟨by omega, fun i W' F' H' hi e w' => ?_, fun W' F' H' e w' => ?_, fun i x H1 H2 d W' F' ρ σ hi e s hy => ?_⟩
  · obtain ⟨x, y, hx, hy, _⟩ := zip_get (List.getElem?_eq_getElem hi)
    obtain ⟨v, hv, _⟩ := DpAll.get hd hx
    obtain ⟨u, hu, _⟩ := DpAll.get hd' hy
    exact ⟨xs, ys, v, u, sqT_le w'.fz (sqT_le e.φ h), sqT_le w'.fz (sqT_le e.φ h'), hv, hu⟩
  · exact ⟨xs, ys, sqT_le w'.fz (sqT_le e.φ h), sqT_le w'.fz (sqT_le e.φ h'), by omega⟩
  · obtain ⟨p, v, u, rfl, hp, rfl, hx, hy⟩ := hy
    obtain ⟨dx, dy, gx, gy, rfl⟩ := zip_get hi
    have q1 := hx xs (sqT_le s.w.fz (sqT_le e.φ h))
    have q2 := hy ys (sqT_le s.w.fz (sqT_le e.φ h'))
    obtain ⟨v', hv, hvd⟩ := DpAll.get hd gx
    obtain ⟨u', hu, hud⟩ := DpAll.get hd' gy
    rw [q1] at hv; cases hv
    rw [q2] at hu; cases hu
    exact s.pair hp (dp_le e.φ _ _ hvd) (dp_le e.φ _ _ hud)
def zipD : List PyData → T (List PyData)
  | [.list xs, .list ys] => .ret (zipL xs ys)
  | [.tuple xs, .tuple ys] => .ret (zipL xs ys)
  | _ => .err
theorem ra_data {K : PySem.W.Frag} {g : Env → T (List AV)} {σ : L2.St} {H : Hp} {Q : List V → Hp → Prop} (h : ∃ W F ρ, Sim K Tb B W F ρ σ H ∧ Hold (g ρ) fun as => Hold (allS as) fun ds => ∀ W' H' vs, Ext W W' → Sim K Tb B W' F ρ σ H' → DpAll K W'.Φ vs ds → Q vs H') : ra K Tb B g σ H Q := by
  obtain ⟨W, F, ρ, s, q⟩ := h
  refine ⟨W, F, ρ, s, q.mono fun as z W1 H1 vs e1 s1 hv => ?_⟩
  obtain ⟨ds, hd, z⟩ := hv.data hv.noown z
  exact z W1 H1 vs e1 s1 hd
theorem pid_zip {e2 : Expr} {g : Env → T (List AV)} {elts : List Expr} {kk : Nat} {p tpos : Pos} (hg : Gl X "zip") (hm : X.mg "zip" = none) (ha : PAD Tb B X [e, e2] g)
    (hs : starEach [e, e2] X.env = (false, eval e X.env) :: starEach [e2] X.env := by rfl) (hpl : (backTo pos (starEach [e2] X.env)).any (·.1) = false := by rfl) :
    PID Tb B X (.Tuple elts kk tpos) (.Call (.Name "zip" p) [e, e2] [] pos) fun ρ => (g ρ).bind fun as => (allS as).bind zipD := by
  refine ⟨PI.weaken (RZ.pi_zipA hg hm ha hs hpl) fun σ H R ⟨W, F, ρ, s, q⟩ => ra_data ⟨W, F, ρ, s, (Hold.bind q).mono fun as z => (Hold.bind z).mono fun ds z W1 H1 vs e1 s1 hv => ?_⟩⟩
  have gen : ∀ d e : PyData, ds = [d, e] → ∃ v u, vs = [v, u] ∧ Dp X.K W1.Φ v d ∧ Dp X.K W1.Φ u e := fun d e h => by
    subst h
    cases hv with
    | cons h1 h2 => cases h2 with
      | cons h3 h4 =>
        cases h4
        exact ⟨_, _, rfl, h1, h3⟩
  unfold zipD at z
  split at z
  · obtain ⟨v, u, rfl, h1, h2⟩ := gen _ _ rfl
    cases h1 with
    | lst hs1 ha1 => cases h2 with
      | lst hs2 ha2 => exact ⟨_, _, _, _, rfl, .inl ⟨sqL_le s1.w.fz hs1, sqL_le s1.w.fz hs2, z W1 H1 _ e1 s1 (drives_zipL s1.w hs1 ha1 hs2 ha2)⟩⟩
  · obtain ⟨v, u, rfl, h1, h2⟩ := gen _ _ rfl
    cases h1 with
    | tup hs1 ha1 => cases h2 with
      | tup hs2 ha2 => exact ⟨_, _, _, _, rfl, .inr ⟨sqT_le s1.w.fz hs1, sqT_le s1.w.fz hs2, z W1 H1 _ e1 s1 (drives_zipT s1.w hs1 ha1 hs2 ha2)⟩⟩
  · exact z.elim
/-- enumerate(a list) -/
def enumL (ds : List PyData) : List PyData := ds.zipIdx.map fun p => PyData.tuple [.int (p.2 : Nat), p.1]
theorem drives_enum {K : PySem.W.Frag} {a : Addr} {xs : List V} {ds : List PyData} {W : Wd} {F H : Hp} (w : WOk Tb W F H) (h : SqL K W.Φ a xs) (hd : DpAll K W.Φ xs ds) : Drives K Tb B (Ite K a) W (enumL ds) := by
  have l1 := DpAll.len hd
  have hl : (enumL ds).length = ds.length := by simp [enumL]
  have z1 := sqL_sz w h
  have get : ∀ {i : Nat} {d : PyData}, (enumL ds)[i]? = some d → ∃ x, ds[i]? = some x ∧ d = .tuple [.int (i : Nat), x] := fun {i d} q => by
    unfold enumL at q
    rw [List.getElem?_map, List.getElem?_zipIdx] at q
    cases e1 : ds[i]? with
    | none => rw [e1] at q; cases q
    | some x =>
      rw [e1] at q
      refine ⟨x, rfl, ?_⟩
      have q := (Option.some.inj q).symm
      rw [q]
      simp
  refine ⟨by omega, fun i W' F' H' hi e w' => ?_, fun W' F' H' e w' => ?_, fun i x H1 H2 d W' F' ρ σ hi e s hy => ?_⟩
  · obtain ⟨x, hx, _⟩ := get (List.getElem?_eq_getElem hi)
    obtain ⟨v, hv, _⟩ := DpAll.get hd hx
    exact ⟨xs, v, sqL_le w'.fz (sqL_le e.φ h), hv⟩
  · exact ⟨xs, sqL_le w'.fz (sqL_le e.φ h), by omega⟩
  · obtain ⟨p, v, rfl, hp, rfl, hx⟩ := hy
    obtain ⟨dx, gx, rfl⟩ := get hi
    have q1 := hx xs (sqL_le s.w.fz (sqL_le e.φ h))
    obtain ⟨v', hv, hvd⟩ := DpAll.get hd gx
    rw [q1] at hv; cases hv
    exact s.pair hp (.int _) (dp_le e.φ _ _ hvd)
def enumD : List PyData → T (List PyData)
  | [.list xs] => .ret (enumL xs)
  | _ => .err
theorem pid_enum {g : Env → T (List AV)} {elts : List Expr} {kk : Nat} {p tpos : Pos} (hg : Gl X "enumerate") (hm : X.mg "enumerate" = none) (ha : PAD Tb B X [e] g)
    (hs : starEach [e] X.env = (false, eval e X.env) :: starEach [] X.env := by rfl) :
    PID Tb B X (.Tuple elts kk tpos) (.Call (.Name "enumerate" p) [e] [] pos) fun ρ => (g ρ).bind fun as => (allS as).bind enumD := by
  refine ⟨PI.weaken (pi_enum hg hm ha hs) fun σ H R ⟨W, F, ρ, s, q⟩ => ra_data ⟨W, F, ρ, s, (Hold.bind q).mono fun as z => (Hold.bind z).mono fun ds z W1 H1 vs e1 s1 hv => ?_⟩⟩
  unfold enumD at z
  split at z
  · cases hv with
    | cons h1 h2 =>
      cases h2
      cases h1 with
      | lst hs1 ha1 => exact ⟨_, _, rfl, sqL_le s1.w.fz hs1, z W1 H1 _ e1 s1 (drives_enum s1.w hs1 ha1)⟩
  · exact z.elim
/-! ### range of two, as what is walked -/
def range2D (x y : PyData) : T (List PyData) := match x, y with
  | .int i, .int j => if (-100000 ≤ i ∧ i ≤ 100000) ∧ (-100000 ≤ j ∧ j ≤ 100000) then .ret (upFrom i (j - i).toNat) else .err
  | _, _ => .err
theorem pid_range2 {tg a b : Expr} {f g : Env → T PyData} {p : Pos} (hg : Gl X "range") (hm : X.mg "range" = none) (ha : PB Tb B X a f) (hb : PB Tb B X b g)
    (h1 : starEach [a, b] X.env = [(false, eval a X.env), (false, eval b X.env)] := by rfl) (h2 : starEach [b] X.env = (false, eval b X.env) :: starEach [] X.env := by rfl) :
    PID Tb B X tg (.Call (.Name "range" p) [a, b] [] pos) fun ρ => (f ρ).bind fun x => (g ρ).bind fun y => range2D x y := by
  have h3 : starEach [a, b] X.env = (false, eval a X.env) :: starEach [b] X.env := h1.trans (by rw [h2]; rfl)
  refine ⟨PI.weaken (pi_range2 hg hm (pa_cons ha (pa_cons hb pa_nil h2) h3) h1 (h2.trans (by rfl))) fun σ H R ⟨W, F, ρ, s, q⟩ => ⟨W, F, ρ, s, (Hold.bind q).mono fun d z => fun W1 H1 v e1 s1 r1 => ?_⟩⟩
  refine ⟨W1, F, ρ, s1, (Hold.bind z).mono fun d2 z2 => fun W2 H2 v2 e2 s2 r2 => ?_⟩
  cases d with
  | int i => cases d2 with
    | int j =>
      have q1 := r1 W2 F H2 e2 s2
      have q2 := r2 W2 F H2 (Ext.refl _) s2
      obtain ⟨hz, z2⟩ := hold_if z2
      have hs : (1000000 : Nat) ≤ sizeLine := by decide
      exact ⟨i, j, by rw [q1.int, q2.int], ⟨by omega, by omega, by omega, by omega⟩, z2 W2 H2 _ (e1.trans e2) s2 (drives_range (by omega))⟩
    | _ => exact z2.elim
  | _ => exact z2.elim
end
end Dn
end
section
set_option Elab.async false
set_option linter.all false
set_option autoImplicit false
set_option maxRecDepth 100000
/-! Dn10: functions as values; a lambda handed to a def. -/
namespace Dn
open PySem PySem.Spec PyProof.Rows L2 LamX

/-- v is a function that, in all that W0 knows and the heap base, does g -/
def Cal (P : Program) (w : World) (K : PySem.W.Frag) (mg : Str → Option Value) (base : Heap) (Tb : List (Addr × Str)) (W0 : Wd) (v : V) (g : List PyData → T PyData) : Prop :=
  ∃ a : Addr, v = .ref a ∧ PySem.W.FnAt a base ∧ ∀ (A : Around) (outer : List PySem.Env) (s : Shared) (H : Hp) (us : List Value) (vs : List V) (W : Wd) (F : Hp) (ds : List PyData) (Q : VK), Room 24 A → A.guards = some [] → Env0 P w K mg base A outer s H → Vals vs us →
    WOk Tb W F H → Ext W0 W → DpAll K W.Φ vs ds → Hold (g ds) (fun d => ∀ W' H' v, Ext W W' → WOk Tb W' F H' → Dp K W'.Φ v d → Q v H') → codeAny (model P w) A (.call (.ref a) ⟨us, []⟩) (CR CX0 outer P w H s Q E0) s
abbrev CalX (X : Cx) (Tb : List (Addr × Str)) : Wd → V → (List PyData → T PyData) → Prop := Cal X.prog X.w X.K X.mg X.base Tb
section
variable {Tb : List (Addr × Str)} {X : Cx}
/-- f(..), f a name that holds a function -/
def callV (i : Nat) (ga : Env → T (List AV)) (ρ : Env) : T AV := match ρ[i]? with
  | some (.fn g) => (ga ρ).bind fun as => (allS as).bind fun ds => (g ds).bind fun d => .ret (.sh d)
  | _ => .err
theorem pd_callV {i : Nat} {x : Str} {p pos : Pos} {e : Expr} {es : List Expr} {ga : Env → T (List AV)} (hr : Room 24 X.A) (hgd : X.A.guards = some []) (ha : PAD Tb (CalX X Tb) X (e :: es) ga)
    (hN : X.N[i]? = some x) (hv : Vis X.env.scope x) (hd : (x == ("__debug__" : Str)) = false := by decide) (hcd : (x == ("__classdict__" : Str)) = false := by decide)
    (he : starEach (e :: es) X.env = (false, eval e X.env) :: starEach es X.env := by rfl) (hpl : (backTo pos (starEach es X.env)).any (·.1) = false := by rfl) :
    PD Tb (CalX X Tb) X (.Call (.Name x p) (e :: es) [] pos) (callV i ga) := by
  refine ⟨fun pins s σ H Q I ⟨W, F, ρ, sm, q⟩ => ?_⟩
  unfold callV at q
  cases ei : ρ[i]? with
  | none => simp only [ei] at q; exact q.elim
  | some av => cases av with
    | fn g =>
      simp only [ei] at q
      obtain ⟨v, hs, W0, e0, a, rfl, hfa, run⟩ := sm.get ei (by intro z; cases z) (by intro ds z; cases z)
      refine wpAny_Call_Name_kw (thn ((pe_var (pos := p) hN hv hd hcd).run pins s σ H (fun v H1 => v = .ref a ∧ H1 = H) I ⟨.ref a, hs, rfl, rfl⟩) fun u s1 ⟨v, H1, I1, r1, ev, eH⟩ => ?_)
      subst ev
      rw [eH] at I1
      obtain rfl : u = Value.ref a := r1
      have fat : ∀ {σ' H' s'}, Inv X pins σ' H' s' → PySem.W.FnAt a s'.heap := fun {σ' H' s'} J => by
        obtain ⟨oc, od, fd, sl, h⟩ := hfa
        exact ⟨oc, od, fd, sl, J.bk _ _ h⟩
      refine PySem.W.callWith_F (first := []) (fat I1) (thn (ha.run pos pins s1 σ H (fun vs H2 => ∃ W2 ds, Ext W W2 ∧ Sim X.K Tb (CalX X Tb) W2 F ρ σ H2 ∧ DpAll X.K W2.Φ vs ds ∧ Hold (g ds) fun d => RPost X.K Tb (CalX X Tb) W F ρ σ Q (.sh d)) I1 ⟨W, F, ρ, sm, (Hold.bind q).mono fun as z W1 H1 vs e1 s1 hv => ?_⟩)
        fun us s2 ⟨vs, H2, I2, r, W2, ds, e2, s2', hd2, z⟩ => ⟨fat I2, ?_⟩) he hpl
      · obtain ⟨ds, hd, z⟩ := hv.data hv.noown (Hold.bind z)
        exact ⟨W1, ds, e1, s1, hd, (Hold.bind z).mono fun d z => z⟩
      · show wpAny _ _ (call (.ref a) us) _ _ _
        refine run_back (f := .none) I2 (run X.A X.stack s2 H2 us vs W2 (pack ρ σ F H2) ds Q hr hgd I2.env0 r s2'.packed (e0.trans e2) hd2 (z.mono fun d z W' H' v e w hv => z W' H' v (e2.trans e) (s2'.back e w) hv))
    | _ => simp only [ei] at q; exact q.elim
end

/-! ### the heap that nobody writes while a call runs -/
theorem funFrames_base {h base base' : Heap} : ∀ {l : List PySem.Env}, h.FunFrames base l → (∀ b ∈ frs l, base'.get? b = none) → h.FunFrames base' l
  | [], _, _ => trivial
  | env :: rest, ⟨h1, ⟨L, o, hf, hn, ho, hd⟩, hr⟩, k => by
    have e : frs (env :: rest) = L :: frs rest := by
      show (env :: rest).filterMap (·.frame) = _
      rw [List.filterMap_cons, hf] <;> rfl
    rw [e] at k
    exact ⟨h1, ⟨L, o, hf, k L List.mem_cons_self, ho, hd⟩, funFrames_base hr fun b hb => k b (List.mem_cons_of_mem _ hb)⟩
open Classical in
theorem hid_base {X : Cx} {pins : List (Addr × Obj)} {σ : L2.St} {H : Hp} {s : Shared} (I : Inv X pins σ H s) :
    ∃ base' : Heap, Env0 X.prog X.w X.K X.mg base' X.A X.stack s H ∧ (∀ b o, X.base.get? b = some o → base'.get? b = some o) ∧ (∀ b o, s.heap.get? b = some o → H b = none → b ∉ frs X.stack → base'.get? b = some o) := by
  have E := I.env0
  let Hx : Hp := fun b => if b ∈ frs X.stack then some (.lst []) else H b
  have hx : ∀ b, H b = none → b ∉ frs X.stack → Hx b = none := fun b h1 h2 => by
    show (if b ∈ frs X.stack then some (HO.lst []) else H b) = none
    rw [if_neg h2]
    exact h1
  have hx2 : ∀ b, Hx b = none → H b = none ∧ b ∉ frs X.stack := fun b h => by
    have h : (if b ∈ frs X.stack then some (HO.lst []) else H b) = none := h
    by_cases hb : b ∈ frs X.stack
    · rw [if_pos hb] at h
      cases h
    · rw [if_neg hb] at h
      exact ⟨h, hb⟩
  have sub : ∀ b o, X.base.get? b = some o → (hidT s.heap Hx).get? b = some o := fun b o e => by
    obtain ⟨h1, h2⟩ := I.bs b o e
    refine hidT_get h1 (hx b h2 fun hb => ?_)
    have := (E.funs.mem hb).1
    rw [e] at this
    cases this
  refine ⟨hidT s.heap Hx, ⟨E.frames, ⟨E.mod.kin.keeps sub, E.mod.glob.keeps sub, ?_, E.mod.nolimit.keeps sub⟩, fun b o e => ?_, Nat.le_of_eq (hidT_size _ _), funFrames_base E.funs fun b hb => ?_, E.frf, E.hok, E.bare⟩, sub, fun b o e h1 h2 => hidT_get e (hx b h1 h2)⟩
  · obtain ⟨mb, h1, h2⟩ := E.mod.blt
    exact ⟨mb, h1.keeps sub, h2⟩
  · obtain ⟨h1, h2⟩ := of_hidT e
    exact ⟨h1, (hx2 b h2).1⟩
  · cases q : (hidT s.heap Hx).get? b with
    | none => rfl
    | some o => exact absurd hb (hx2 b (of_hidT q).2).2
/-- a code object is known from now on -/
theorem Sim.code {K : PySem.W.Frag} {Tb : List (Addr × Str)} {B : Wd → V → (List PyData → T PyData) → Prop} {W : Wd} {F H : Hp} {ρ : Env} {σ : L2.St} {c : Addr} {q : Str} (s : Sim K Tb B W F ρ σ H) (hc : H c = some (CodeO c q)) :
    ∃ W', Ext W W' ∧ Sim K Tb B W' F ρ σ H ∧ W'.Φ c = some (CodeO c q) := by
  have nF : F c = none := by
    cases e : F c with
    | none => rfl
    | some o =>
      obtain ⟨vs, rfl⟩ := s.w.fl c o e
      have := s.w.fr c _ e
      rw [hc] at this
      unfold CodeO at this
      cases this
  have nP : ¬ W.P c := fun z => by
    obtain ⟨_, i, j, e, _⟩ := s.w.pt c z
    rw [hc] at e
    unfold CodeO at e
    cases e
  have old : ∀ b o, W.Φ b = some o → upd W.Φ c (CodeO c q) b = some o := fun b o e => by
    by_cases hb : b = c
    · subst hb
      have := s.w.fz _ o e
      rw [hc] at this
      rw [upd_same]
      exact this
    · rw [upd_ne hb]
      exact e
  have e : Ext W ⟨upd W.Φ c (CodeO c q), W.P⟩ := ⟨old, fun _ h => h⟩
  have new : ∀ {b o}, upd W.Φ c (CodeO c q) b = some o → (b = c ∧ o = CodeO c q) ∨ (b ≠ c ∧ W.Φ b = some o) := fun {b o} h => by
    by_cases hb : b = c
    · subst hb
      rw [upd_same] at h
      exact .inl ⟨rfl, (Option.some.inj h).symm⟩
    · rw [upd_ne hb] at h
      exact .inr ⟨hb, h⟩
  refine ⟨⟨upd W.Φ c (CodeO c q), W.P⟩, e, ⟨⟨fun b o h => ?_, s.w.fr, fun b o h => ?_, fun b h => ?_, s.w.tb, fun b o h => ?_, fun b xs h => ?_, s.w.fl⟩, s.s.len, fun i av h1 h2 h3 => ?_, fun i ds h => ?_, s.s.ne⟩, upd_same⟩
  · rcases new h with ⟨rfl, rfl⟩ | ⟨_, h⟩
    · exact hc
    · exact s.w.fz b o h
  · obtain ⟨h1, h2⟩ := s.w.dj b o h
    have hb : b ≠ c := fun z => by
      subst z
      rw [nF] at h
      cases h
    exact ⟨by show upd W.Φ c _ b = none; rw [upd_ne hb]; exact h1, h2⟩
  · obtain ⟨h1, h2⟩ := s.w.pt b h
    have hb : b ≠ c := fun z => nP (z ▸ h)
    exact ⟨by show upd W.Φ c _ b = none; rw [upd_ne hb]; exact h1, h2⟩
  · rcases h with h | h
    · rcases new h with ⟨rfl, rfl⟩ | ⟨_, h⟩
      · exact fun ps => codeO_ne ps
      · exact s.w.nt b o (.inl h)
    · exact s.w.nt b o (.inr h)
  · refine s.w.sz b xs ?_
    have key : ∀ {o : HO}, upd W.Φ c (CodeO c q) b = some o → o ≠ CodeO c q → W.Φ b = some o := fun {o} h n => by
      rcases new h with ⟨_, h⟩ | ⟨_, h⟩
      · exact absurd h n
      · exact h
    have ne1 : ∀ ys, HO.lst ys ≠ CodeO c q := fun ys z => by unfold CodeO at z; cases z
    have ne2 : ∀ ys, HO.tup ys ≠ CodeO c q := fun ys z => by unfold CodeO at z; cases z
    have ne3 : ∀ o u, HO.frz o u ≠ CodeO c q := fun o u z => by unfold CodeO at z; cases z
    rcases h with (h | ⟨o, h⟩) | (h | ⟨o, h⟩)
    · exact .inl (.inl (key h (ne1 _)))
    · exact .inl (.inr ⟨o, key h (ne3 _ _)⟩)
    · exact .inr (.inl (key h (ne2 _)))
    · exact .inr (.inr ⟨o, key h (ne3 _ _)⟩)
  · obtain ⟨v, q1, q2⟩ := s.s.sh i av h1 h2 h3
    exact ⟨v, q1, q2.ext e⟩
  · obtain ⟨a, vs, h1, h2, hz, h3, h4, h5, h6⟩ := s.s.own i ds h
    have hb : a ≠ c := fun z => by
      rw [z, hc] at h2
      unfold CodeO at h2
      cases h2
    exact ⟨a, vs, h1, h2, hz, by show upd W.Φ c _ a = none; rw [upd_ne hb]; exact h3, h4, h5, dpAll_le e.φ _ _ h6⟩
/-! ### a lambda -/
def cap1 (ρ : Env) (j : Nat) : AV := match ρ[j]? with
  | some (.sh d) => .sh d
  | some .pot => .pot
  | _ => .no
def caps (js : List Nat) (ρ : Env) : Env := js.map (cap1 ρ)
/-- what a lambda does: its parameters, then what it captured -/
def lamG (n : Nat) (js : List Nat) (N : Nat) (fb : Env → T AV) (ρ : Env) (ds : List PyData) : T PyData := if ds.length = n then (fb (ds.map AV.sh ++ (caps js ρ ++ List.replicate (N - ds.length - js.length) .no))).bind toS else .err
/-- data alone -/
def dataA : AV → T AV
  | .sh d => .ret (.sh d)
  | .own ds => .ret (.own ds)
  | _ => .err
section
variable {Tb : List (Addr × Str)} {X : Cx}
theorem lam_sim {K : PySem.W.Frag} {B B' : Wd → V → (List PyData → T PyData) → Prop} {W0 W W2 : Wd} {F F2 H H2 : Hp} {ρ : Env} {σ : L2.St} {js : List Nat} {N : List Str} {vs : List V} {ds : List PyData} (s : Sim K Tb B W F ρ σ H) (e : Ext W W2) (w : WOk Tb W2 F2 H2) (hd : DpAll K W2.Φ vs ds) :
    Sim K Tb B' W2 F2 (ds.map AV.sh ++ (caps js ρ ++ List.replicate (N.length - ds.length - js.length) .no)) (NdefX.startF N vs (js.map (NdefX.slotAt σ))) H2 := by
  have hl := DpAll.len hd
  have noown : ∀ {i : Nat} {es : List PyData}, (ds.map AV.sh ++ (caps js ρ ++ List.replicate (N.length - ds.length - js.length) AV.no))[i]? = some (.own es) → False := fun {i es} h => by
    have m := List.mem_of_getElem? h
    rcases List.mem_append.mp m with m | m
    · obtain ⟨d, _, e⟩ := List.mem_map.mp m
      cases e
    · rcases List.mem_append.mp m with m | m
      · obtain ⟨j, _, e⟩ := List.mem_map.mp m
        unfold cap1 at e
        split at e <;> cases e
      · cases (List.mem_replicate.mp m).2
  refine ⟨w, ⟨?_, fun i av h1 h2 h3 => ?_, fun i es h => (noown h).elim, fun i j es es' a _ h _ _ => (noown h).elim⟩⟩
  · unfold NdefX.startF caps
    simp only [List.length_append, List.length_map, List.length_replicate]
    omega
  · unfold NdefX.startF
    by_cases c1 : i < ds.length
    · rw [List.getElem?_append_left (by rw [List.length_map]; exact c1), List.getElem?_map] at h1
      cases ed : ds[i]? with
      | none => rw [ed] at h1; cases h1
      | some d =>
        rw [ed] at h1
        cases h1
        obtain ⟨v, hv, hvd⟩ := DpAll.get hd ed
        refine ⟨v, ?_, hvd⟩
        rw [List.getElem?_append_left (by rw [List.length_map, hl]; exact c1), List.getElem?_map, hv]
        rfl
    · rw [List.getElem?_append_right (by rw [List.length_map]; omega), List.length_map] at h1
      by_cases c2 : i - ds.length < js.length
      · have hc : (caps js ρ).length = js.length := by unfold caps; rw [List.length_map]
        rw [List.getElem?_append_left (by rw [hc]; exact c2)] at h1
        unfold caps at h1
        rw [List.getElem?_map] at h1
        cases ej : js[i - ds.length]? with
        | none => rw [ej] at h1; cases h1
        | some j =>
          rw [ej] at h1
          have h1 : cap1 ρ j = av := Option.some.inj h1
          have go : ∀ v, σ[j]? = some (some v) → VOk K B' W2 v av → ∃ v, (vs.map some ++ (js.map (NdefX.slotAt σ) ++ List.replicate (N.length - vs.length - (js.map (NdefX.slotAt σ)).length) none))[i]? = some (some v) ∧ VOk K B' W2 v av := fun v h2 h3 => by
            refine ⟨v, ?_, h3⟩
            rw [List.getElem?_append_right (by rw [List.length_map, hl]; omega), show (vs.map some).length = ds.length by rw [List.length_map, hl], List.getElem?_append_left (by rw [List.length_map]; exact c2), List.getElem?_map, ej]
            show some (NdefX.slotAt σ j) = _
            rw [NdefX.slotAt_of h2]
          unfold cap1 at h1
          cases er : ρ[j]? with
          | none => simp only [er] at h1; exact absurd h1.symm h2
          | some aw => cases aw with
            | sh d =>
              simp only [er] at h1
              subst h1
              obtain ⟨v, q1, q2⟩ := s.s.sh j _ er (by intro z; cases z) (by intro ds z; cases z)
              exact go v q1 (dp_le e.φ _ _ q2)
            | pot =>
              simp only [er] at h1
              subst h1
              obtain ⟨v, q1, a, rfl, q2⟩ := s.s.sh j _ er (by intro z; cases z) (by intro ds z; cases z)
              exact go _ q1 ⟨a, rfl, e.p _ q2⟩
            | _ => simp only [er] at h1; exact absurd h1.symm h2
      · have hc : (caps js ρ).length = js.length := by unfold caps; rw [List.length_map]
        rw [List.getElem?_append_right (by rw [hc]; omega), List.getElem?_replicate] at h1
        split at h1
        · exact absurd (Option.some.inj h1).symm h2
        · cases h1
/-- the lambda's function -/
abbrev lamNF (q : Str) (params : Arguments) (scope : Scope) (cl : List (Str × Addr)) (c' : Addr) : NdefX.NF := ⟨"<lambda>", q, params, [], scope, cl, c'⟩
abbrev lamX (X : Cx) (base' : Heap) (N : List Str) (params : Arguments) (scope : Scope) (f c' : Addr) (A : Around) (outer : List PySem.Env) (s : Shared) (H : Hp) : Cx :=
  NdefX.ncx CX0 X.prog X.w X.K X.mg base' N (lamNF (X.env.qual ++ "<lambda>") params scope (cloFrom X.env.cells scope.names []) c') f A outer s H E0
/-- f(e, lambda ..) -/
theorem pd_lamcall {k : Nat} {x : Str} {st : Stmt} {xs ps fr N : List Str} {js : List Nat} {d : List AV → T AV} {e : Expr} {f : Env → T AV} {fb : Env → T AV} {params : Arguments} {body : Expr} {scope : Scope} {p lpos pos : Pos} {c P : Addr}
    (G : ∀ base' : Heap, (∀ b o, X.base.get? b = some o → base'.get? b = some o) → FnG X.prog X.w X.K X.mg base' Tb (Cal X.prog X.w X.K X.mg base' Tb) x st xs k d) (hxs : xs.length = 2) (hr : Room k X.A) (hgd : X.A.guards = some []) (hg : Gl X x) (he : PD Tb (CalX X Tb) X e f)
    (TB : TabB X.base X.mg c P) (hcode : X.env.code = .ref c) (hmT : (P, X.env.qual ++ "<lambda>") ∈ Tb) (hu : ∀ p ∈ Tb, p.1 = P → p.2 = X.env.qual ++ "<lambda>") (hdef : defaultsOf params X.env = ([], []))
    (S : NdefX.NScope N ps fr scope) (hfree : ∀ y ∈ scope.names, y.2 = .free → X.env.scope.names.lookup y.1 = some .cell ∨ X.env.scope.names.lookup y.1 = some .free) (hfr : ∀ y ∈ fr, (y, NameKind.free) ∈ scope.names) (hjs : js.map (fun j => X.N[j]?) = fr.map some) (hfn : ∀ x, X.fn x = true)
    (hbind : ∀ (q : Str) (cl : List (Str × Addr)) (pm cv ctv : Value) (us : List Value), us.length = ps.length → bindArgs (PySem.W.kla_fn "<lambda>" q params body scope cl pm cv ctv) ⟨us, []⟩ = pure (ps.zip us))
    (hbody : ∀ (base' : Heap), (∀ b o, X.base.get? b = some o → base'.get? b = some o) → ∀ (f c' : Addr) (A : Around) (outer : List PySem.Env) (s : Shared) (H : Hp), Room 23 (lamX X base' N params scope f c' A outer s H).A → (lamX X base' N params scope f c' A outer s H).A.guards = some [] →
      PD Tb (Cal X.prog X.w X.K X.mg base' Tb) (lamX X base' N params scope f c' A outer s H) body fb)
    (hdb : (x == ("__debug__" : Str)) = false := by decide) (h1 : starEach [e, .Lambda params body scope lpos] X.env = (false, eval e X.env) :: (false, eval (.Lambda params body scope lpos) X.env) :: [] := by rfl)
    (h2 : starEach [.Lambda params body scope lpos] X.env = (false, eval (.Lambda params body scope lpos) X.env) :: [] := by rfl) :
    PD Tb (CalX X Tb) X (.Call (.Name x p) [e, .Lambda params body scope lpos] [] pos) fun ρ => (f ρ).bind fun a => (toS a).bind fun y => (calling 2 d [.sh y, .fn (lamG ps.length js N.length fb ρ)]).bind dataA := by
  obtain ⟨fd0, F0, hb0, hm0, run0⟩ := (G X.base fun _ _ h => h).ex
  refine ⟨fun pins s σ H Q I ⟨W, F, ρ, sm, q⟩ => ?_⟩
  refine wpAny_Call_Name_kw (ld_glob I hg hm0 ?_ hdb)
  refine PySem.W.callWith_K (h₀ := X.base) I.ok.mod.kin F0.kp ?_ (by rw [h1, h2]) (by rw [h2]; rfl)
  rw [h1]
  show wpAny _ _ (spliced ((false, eval e X.env) :: (false, eval (.Lambda params body scope lpos) X.env) :: [])) _ _ s
  have key : ∀ (y : PyData), Hold (calling 2 d [.sh y, .fn (lamG ps.length js N.length fb ρ)]) (fun av => Hold (dataA av) (RPost X.K Tb (CalX X Tb) W F ρ σ Q)) → ∀ (W1 : Wd) (H1 : Hp) (v : V) (u : Value) (s1 : Shared), Ext W W1 → Sim X.K Tb (CalX X Tb) W1 F ρ σ H1 → Dp X.K W1.Φ v y → Inv X pins σ H1 s1 → L2.RelV v u →
      wpAny (model X.prog X.w) X.A (spliced [(false, eval (.Lambda params body scope lpos) X.env)]) (fun vs s₂ => X.K.In s₂.heap ∧ wpAny (model X.prog X.w) X.A (call (.ref (He.ga X.K x)) (u :: vs)) (EP X pins σ Q) X.xe s₂) X.xe s1 := by
    intro y z W1 H1 v u s1 e1 sm1 hv I1 ru
    have has : ∀ y ∈ scope.names, y.2 = .free → ∃ c, X.env.cells.lookup y.1 = some c := fun y hy e => (hfree y hy e).elim (fun z => I1.ok.has _ (.inl z)) fun z => I1.ok.has _ (.inr z)
    refine Calls.spliced_cons (lam_make2 I1 TB hcode hmT hu sm1.w.tb hdef has fun fa c' pm ctv H2 s2 I2 eN T2 hfa hfn2 hfr2 hco => ?_)
    refine Calls.spliced_nil ⟨I2.kIn, ?_⟩
    obtain ⟨W2, e2, sm2, hc2⟩ := (sm1.grown eN T2).code hco
    obtain ⟨base', E', sub, inB⟩ := hid_base I2
    have C2 : NdefX.CellsAt (cloFrom X.env.cells scope.names []) fr (js.map (NdefX.slotAt σ)) s2.heap H2 := NdefX.cells_of I2 (NdefX.Caps.made I2.ok hfree hfr hjs)
    have cellB : ∀ y a, (cloFrom X.env.cells scope.names []).lookup y = some a → ∀ o, s2.heap.get? a = some o → base'.get? a = some o := fun y a ha o ho => by
      have hcx : X.env.cells.lookup y = some a := NdefX.clo_cm has ha
      refine inB a o ho (I2.freeC y a hcx) fun hb => ?_
      rcases List.mem_cons.mp (I2.stkSub a hb) with e | e
      · obtain ⟨m, ⟨ol, es, ep, hol, hdl, _⟩, _⟩ := I2.loc
        obtain ⟨v, oc, hoc, hdc⟩ := I2.cell y a hcx
        rw [e, hol] at hoc
        cases hoc
        rw [hdl] at hdc
        cases hdc
      · obtain ⟨_, o', ho', _⟩ := I2.ok.funs.mem e
        exact absurd (Heap.lt_size ho') (Nat.not_lt.mpr (I2.ok.cab y a (hfn y) hcx))
    have hfB := inB fa _ hfa hfn2 hfr2
    have cal : Cal X.prog X.w X.K X.mg base' Tb W2 (.ref fa) (lamG ps.length js N.length fb ρ) := by
      refine ⟨fa, rfl, ⟨_, _, _, _, hfB⟩, fun A outer s3 H3 us vs W3 F3 ds Q3 hr3 hg3 e03 rv w3 ex3 hd3 q3 => ?_⟩
      obtain ⟨hn3, q3⟩ := hold_if q3
      have hl3 := DpAll.len hd3
      have of3 := (e03.bs fa _ hfB).1
      have cr3 := NdefX.codeO_at e03.hok (w3.fz c' _ (ex3.φ c' _ hc2))
      have lim : s3.heap.NoLimit := e03.mod.nolimit.keeps fun b o e => (e03.bs b o e).1
      refine PySem.W.kla_callFunE hr3.depth of3 rfl S.co S.gen rfl cr3 ?_
      rw [hbind _ _ _ _ _ us (by rw [← rv.length, hl3, hn3])]
      refine wpAny_pure (wpAny_newFunctionEnv S.nocell (fun ⟨n, _⟩ hy => S.par n (List.of_mem_zip hy).1) (fun h₁ hns hsb => ⟨lim.fresh _ hsb, ?_⟩) S.kind)
      have kp : ∀ b o, s3.heap.get? b = some o → h₁.get? b = some o := fun b o e => hsb.extBut b o (Nat.ne_of_lt (Heap.lt_size e)) (Heap.get?_push_of_some _ e)
      have C3 : NdefX.CellsAt (cloFrom X.env.cells scope.names []) fr (js.map (NdefX.slotAt σ)) s3.heap H3 := by
        refine ⟨C2.len, fun y a ha => ?_, C2.inj, fun i y hy => ?_⟩
        · obtain ⟨_, v, o, ho, hd⟩ := C2.all y a ha
          obtain ⟨g1, g2⟩ := e03.bs a o (cellB y a ha o ho)
          exact ⟨g2, v, o, g1, hd⟩
        · obtain ⟨a, ha, hv⟩ := C2.has i y hy
          refine ⟨a, ha, fun v hw => ?_⟩
          obtain ⟨u, ru, o, ho, hd⟩ := hv v hw
          exact ⟨u, ru, o, (e03.bs a o (cellB y a ha o ho)).1, hd⟩
      have J := NdefX.inv_startN (CX := CX0) (E := E0) (F := lamNF (X.env.qual ++ "<lambda>") params scope (cloFrom X.env.cells scope.names []) c') (f := fa) (tk := s3.toks + (ps.zip us).length) S hr3.hd e03 (by rw [hl3, hn3]) rv C3 hns kp
      have hq := (hbody base' sub fa c' A outer s3 H3 (hr3.deeper _) hg3).run [] _ _ H3 Q3 J ⟨W3, F3, _, lam_sim (W0 := W2) (B' := Cal X.prog X.w X.K X.mg base' Tb) (N := N) (js := js) sm2 ex3 w3 hd3, (Hold.bind q3).mono fun av z => RPost.shd (z.mono fun y z W' H' v e s hv => z W' H' v e s.w hv)⟩
      refine PySem.W.kla_codeExpr (wpAny_mono hq (fun v s' hq => ?_) fun e s' hq => hq)
      obtain ⟨w', H', J', rv', q⟩ := hq
      exact ⟨w', H', J'.os, J'.bare, J'.base, J'.hok, rv', q⟩
    obtain ⟨fd, F', hb', hm', run'⟩ := (G base' sub).ex
    have hx : X.mg x = some (.ref (He.ga X.K x)) := hm'
    have bt := hb' s2 [u, .ref fa] I2.kIn (by rw [List.length_append, hxs]; rfl)
    rw [List.append_nil] at bt
    obtain ⟨hn, z⟩ := hold_if z
    refine run_back (f := .none) I2 (run' X.A X.stack s2 H2 ⟨[u, .ref fa], []⟩ [u, .ref fa] [v, .ref fa] Q hr hgd E' bt (.cons ru (.cons rfl .nil)) ?_)
    have vall : VAll X.K (Cal X.prog X.w X.K X.mg base' Tb) W2 [v, .ref fa] [.sh y, .fn (lamG ps.length js N.length fb ρ)] := .cons (dp_le e2.φ _ _ hv) (.cons ⟨W2, Ext.refl _, cal⟩ .nil)
    refine ⟨W2, pack ρ σ F H2, _, sm2.packed, vall, by rw [hxs]; rfl, z.mono fun av z => ?_⟩
    cases av with
    | own ds =>
      intro W3 H3 a xs e3 hpn w hz hd
      obtain ⟨hF, s3⟩ := sm2.backOwn e3 hpn w
      exact z W3 H3 a xs ((e1.trans e2).trans e3) hF s3 hz hd
    | sh y => exact fun W3 H3 v e3 w hv => z W3 H3 v ((e1.trans e2).trans e3) (sm2.back e3 w) hv
    | _ => exact z.elim
  refine Calls.spliced_cons (thn (he.run pins s σ H (fun v H1 => ∃ W1 y, Ext W W1 ∧ Sim X.K Tb (CalX X Tb) W1 F ρ σ H1 ∧ Dp X.K W1.Φ v y ∧ Hold (calling 2 d [.sh y, .fn (lamG ps.length js N.length fb ρ)]) fun av => Hold (dataA av) (RPost X.K Tb (CalX X Tb) W F ρ σ Q)) I
    ⟨W, F, ρ, sm, (Hold.bind q).mono fun av z => RPost.shd ((Hold.bind z).mono fun y z W1 H1 v e1 s1 hv => ⟨W1, y, e1, s1, hv, Hold.bind z⟩)⟩) fun u s1 ⟨v, H1, I1, r1, W1, y, e1, sm1, hv, z⟩ => ?_)
  exact key y z W1 H1 v u s1 e1 sm1 hv I1 r1
end
end Dn
end
section
set_option Elab.async false
set_option linter.all false
set_option autoImplicit false
set_option maxRecDepth 100000
/-! Dn11: pots, constants of the module, promises weakened. -/
namespace Dn
open PySem PySem.Spec PyProof.Rows L2 LamX

/-! ### promises -/
section
variable {P : Program} {w : World} {K : PySem.W.Frag} {mg : Str → Option Value} {base : Heap} {Tb : List (Addr × Str)} {B : Wd → V → (List PyData → T PyData) → Prop}
theorem FnG.weaken {x : Str} {st : Stmt} {ps : List Str} {k : Nat} {d d' : List AV → T AV} (G : FnG P w K mg base Tb B x st ps k d) (h : ∀ as p, Hold (d' as) p → Hold (d as) p) : FnG P w K mg base Tb B x st ps k d' :=
  let ⟨fd, h1, h2, h3, h4⟩ := G.ex
  ⟨fd, h1, h2, h3, fun A outer s H args us vs Q hr hg e0 hb r ⟨W, F, as, a1, a2, a3, a4⟩ => h4 A outer s H args us vs Q hr hg e0 hb r ⟨W, F, as, a1, a2, a3, h as _ a4⟩⟩
theorem WOk.toPot {W : Wd} {F H : Hp} {a : Addr} {i j : Int} (hn : F a = none) (wk : WOk Tb W (upd F a (.lst [.int i, .int j])) H) (hp : PotOk i j) : ∃ W', Ext W W' ∧ WOk Tb W' F H ∧ W'.P a := by
  obtain ⟨d1, d2⟩ := wk.dj a _ upd_same
  have hH := wk.fr a _ upd_same
  refine ⟨⟨W.Φ, fun b => b = a ∨ W.P b⟩, ⟨fun _ _ h => h, fun _ h => .inr h⟩, ⟨wk.fz, fun b o e => wk.fr b o (upd_le hn b o e), fun b o e => ?_, fun b hb => ?_, wk.tb, fun b o e => wk.nt b o (e.imp id (upd_le hn b o)), wk.sz, fun b o e => wk.fl b o (upd_le hn b o e)⟩, .inl rfl⟩
  · obtain ⟨h1, h2⟩ := wk.dj b o (upd_le hn b o e)
    refine ⟨h1, ?_⟩
    rintro (z | z)
    · subst z
      rw [hn] at e
      cases e
    · exact h2 z
  · rcases hb with rfl | hb
    · exact ⟨d1, i, j, hH, hp⟩
    · exact wk.pt b hb
/-- what makes a list of two numbers makes a pot -/
theorem FnG.pot {x : Str} {st : Stmt} {ps : List Str} {k : Nat} {d d' : List AV → T AV} (G : FnG P w K mg base Tb B x st ps k d) (h : ∀ as p, Hold (d' as) p → Hold (d as) fun av => ∃ i j : Int, av = .own [.int i, .int j] ∧ PotOk i j ∧ p .pot) : FnG P w K mg base Tb B x st ps k d' := by
  obtain ⟨fd, h1, h2, h3, h4⟩ := G.ex
  refine ⟨fd, h1, h2, h3, fun A outer s H args us vs Q hr hg e0 hb r ⟨W, F, as, a1, a2, a3, a4⟩ => h4 A outer s H args us vs Q hr hg e0 hb r ⟨W, F, as, a1, a2, a3, (h as _ a4).mono ?_⟩⟩
  rintro _ ⟨i, j, rfl, hp, z⟩
  intro W' H' a xs e hF wk hz hd
  have hx : xs = [.int i, .int j] := by
    cases hd with
    | cons q1 q2 => cases q2 with
      | cons q3 q4 =>
        cases q4
        cases q1
        cases q3
        rfl
  subst hx
  obtain ⟨W2, e2, w2, p2⟩ := wk.toPot hF hp
  exact z W2 H' _ (e.trans e2) w2 ⟨a, rfl, p2⟩
end
/-- a bound of the wide half of a pot -/
theorem big_ex : ∃ n : Nat, n = 2 ^ 2000000 := ⟨_, rfl⟩
noncomputable def BIG : Nat := big_ex.choose
theorem BIG_eq : BIG = 2 ^ 2000000 := big_ex.choose_spec
theorem BIG_pos : 0 < BIG := by
  rw [BIG_eq]
  exact Nat.two_pow_pos _
theorem lim_ex : ∃ n : Nat, n = 2147483648 := ⟨_, rfl⟩
/-- .. of the other half -/
noncomputable def LIM : Nat := lim_ex.choose
theorem LIM_eq : LIM = 2147483648 := lim_ex.choose_spec
theorem LIM_pos : 0 < LIM := by
  rw [LIM_eq]
  omega
section
variable {K : PySem.W.Frag} {Tb : List (Addr × Str)} {B : Wd → V → (List PyData → T PyData) → Prop} {W : Wd} {F H : Hp} {ρ : Env} {σ : L2.St}
theorem potOk_of {i j : Int} (h1 : 0 ≤ i) (h2 : i.toNat < BIG) (h3 : 0 ≤ j) (h4 : j < 2147483648) : PotOk i j := by
  refine ⟨h1, ?_, h3, h4⟩
  rw [BIG_eq] at h2
  generalize (2 : Nat) ^ 2000000 = z at h2 ⊢
  omega
theorem potOk_big {i j : Int} (h : PotOk i j) : i.toNat < BIG := by
  obtain ⟨h1, h2, _⟩ := h
  rw [BIG_eq]
  generalize (2 : Nat) ^ 2000000 = z at h2 ⊢
  omega
/-- a pot is written -/
theorem Sim.potSet {a : Addr} {i j : Int} (s : Sim K Tb B W F ρ σ H) (ha : W.P a) (hp : PotOk i j) : Sim K Tb B W F ρ σ (upd H a (.lst [.int i, .int j])) := by
  obtain ⟨hW, i0, j0, hH, _⟩ := s.w.pt a ha
  have nW : ∀ b o, W.Φ b = some o → b ≠ a := fun b o e => ne_of_none e hW
  have nF : ∀ b o, F b = some o → b ≠ a := fun b o e z => (s.w.dj b o e).2 (z ▸ ha)
  refine ⟨⟨fun b o e => by rw [upd_ne (nW b o e)]; exact s.w.fz b o e, fun b o e => by rw [upd_ne (nF b o e)]; exact s.w.fr b o e, s.w.dj, fun b hb => ?_, fun p hp => ?_, s.w.nt, s.w.sz, s.w.fl⟩, s.s.len, s.s.sh, fun k ds h => ?_, s.s.ne⟩
  · obtain ⟨h1, x, y, h2, h3⟩ := s.w.pt b hb
    by_cases e : b = a
    · subst e
      exact ⟨h1, i, j, upd_same, hp⟩
    · exact ⟨h1, x, y, by rw [upd_ne e]; exact h2, h3⟩
  · obtain ⟨ps, h1, h2, h3⟩ := s.w.tb p hp
    refine ⟨ps, by rw [upd_ne (ne_of h1 hH (by intro z; cases z))]; exact h1, h2, fun pos cv hc => ?_⟩
    obtain ⟨c, e1, e2⟩ := h3 pos cv hc
    exact ⟨c, e1, by rw [upd_ne (ne_of e2 hH (by intro z; unfold CodeO at z; cases z))]; exact e2⟩
  · obtain ⟨b, vs, h1, h2, hz, h3, h4, h5, h6⟩ := s.s.own k ds h
    have hb : b ≠ a := fun z => h5 (z ▸ ha)
    exact ⟨b, vs, h1, by rw [upd_ne hb]; exact h2, hz, h3, h4, h5, h6⟩
end
section
variable {Tb : List (Addr × Str)} {B : Wd → V → (List PyData → T PyData) → Prop} {X : Cx}
/-- pot[0], pot[1] -/
noncomputable def potRead (i : Nat) (k : Int) (ρ : Env) : T AV := match ρ[i]? with
  | some .pot => if k = 0 then .draw BIG fun d => .ret (.sh (.int (d : Nat))) else if k = 1 then .draw LIM fun d => .ret (.sh (.int (d : Nat))) else .err
  | _ => .err
theorem pd_pot {i : Nat} {k : Int} {o : Expr} {j : Nat} {p pos : Pos} (ho : PE X o (tVar i)) (hix : PlainIx (.Constant (.int k) j p)) : PD Tb B X (.Subscript o (.Constant (.int k) j p) pos) (potRead i k) := by
  refine PE.weaken (pe_ix ix_seq ho pe_int hix) fun σ H Q ⟨W, F, ρ, s, q⟩ => ?_
  unfold potRead at q
  cases ei : ρ[i]? with
  | none => simp only [ei] at q; exact q.elim
  | some av => cases av with
    | pot =>
      simp only [ei] at q
      obtain ⟨v, hv, a, rfl, ha⟩ := s.get ei (by intro z; cases z) (by intro ds z; cases z)
      obtain ⟨hW, x, y, hH, hp⟩ := s.w.pt a ha
      refine ⟨.ref a, hv, ?_⟩
      by_cases h0 : k = 0
      · subst h0
        rw [if_pos rfl] at q
        have hb := potOk_big hp
        have q : RPost X.K Tb B W F ρ σ Q (AV.sh (.int ((x.toNat : Nat) : Int))) := q.2 x.toNat hb
        have e : ((x.toNat : Nat) : Int) = x := Int.toNat_of_nonneg hp.1
        rw [e] at q
        exact .inl ⟨a, _, 0, .int x, rfl, rfl, .inl (.inl hH), rfl, q W H _ (Ext.refl _) s (.int _)⟩
      · rw [if_neg h0] at q
        obtain ⟨h1, q⟩ := hold_if q
        subst h1
        obtain ⟨p1, p2, p3, p4⟩ := hp
        have q : RPost X.K Tb B W F ρ σ Q (AV.sh (.int ((y.toNat : Nat) : Int))) := q.2 y.toNat (by rw [LIM_eq]; omega)
        have e : ((y.toNat : Nat) : Int) = y := Int.toNat_of_nonneg p3
        rw [e] at q
        exact .inl ⟨a, _, 1, .int y, rfl, rfl, .inl (.inl hH), rfl, q W H _ (Ext.refl _) s (.int _)⟩
    | _ => simp only [ei] at q; exact q.elim
/-- pot[k] = .. -/
noncomputable def potG (i : Nat) (k : Int) (d : PyData) (ρ : Env) : T Env := match ρ[i]? with
  | some .pot => match d with
    | .int v => if 0 ≤ v ∧ ((k = 0 ∧ v.toNat < BIG) ∨ (k = 1 ∧ v.toNat < LIM)) then .ret ρ else .err
    | _ => .err
  | _ => .err
theorem pgd_pot {i : Nat} {k : Int} {o : Expr} {j : Nat} {p pos : Pos} (ho : PE X o (tVar i)) (hix : PE X (.Constant (.int k) j p) (tC (.int k)) := by exact pe_int) : PGD Tb B X (.Subscript o (.Constant (.int k) j p) pos) [] (potG i k) := by
  refine ⟨PG.weaken (pg_sub ho hix set_list) fun v σ H Q ⟨W, F, ρ, d, s, hd, q⟩ => ?_⟩
  unfold potG at q
  cases ei : ρ[i]? with
  | none => simp only [ei] at q; exact q.elim
  | some av => cases av with
    | pot =>
      simp only [ei] at q
      obtain ⟨u, hv, a, rfl, ha⟩ := s.get ei (by intro z; cases z) (by intro ds z; cases z)
      obtain ⟨hW, x, y, hH, hp⟩ := s.w.pt a ha
      cases d with
      | int n =>
        cases hd
        obtain ⟨⟨h0, hk⟩, q2⟩ := hold_if q
        rcases hk with ⟨rfl, hb⟩ | ⟨rfl, hb⟩
        · exact ⟨.ref a, hv, a, _, 0, 0, rfl, rfl, hH, rfl, q2 W σ _ (Ext.refl _) (s.potSet ha (potOk_of h0 hb hp.2.2.1 hp.2.2.2)) (Agree.refl _)⟩
        · exact ⟨.ref a, hv, a, _, 1, 1, rfl, rfl, hH, rfl, q2 W σ _ (Ext.refl _) (s.potSet ha ⟨hp.1, hp.2.1, h0, by rw [LIM_eq] at hb; omega⟩) (Agree.refl _)⟩
      | _ => exact q.elim
    | _ => simp only [ei] at q; exact q.elim
/-- a list of two numbers is a pot from now on -/
noncomputable def potOf : AV → T AV
  | .own [.int i, .int j] => if 0 ≤ i ∧ i.toNat < BIG ∧ 0 ≤ j ∧ j.toNat < LIM then .ret .pot else .err
  | _ => .err
theorem FnG.potOf {P : Program} {w : World} {K : PySem.W.Frag} {mg : Str → Option Value} {base : Heap} {x : Str} {st : Stmt} {ps : List Str} {k : Nat} {d : List AV → T AV} (G : FnG P w K mg base Tb B x st ps k d) : FnG P w K mg base Tb B x st ps k fun as => (d as).bind Dn.potOf := by
  refine G.pot fun as p h => (Hold.bind h).mono fun av z => ?_
  unfold Dn.potOf at z
  split at z
  · obtain ⟨hz, z⟩ := hold_if z
    exact ⟨_, _, rfl, potOk_of hz.1 hz.2.1 hz.2.2.1 (by have := hz.2.2.2; rw [LIM_eq] at this; omega), z⟩
  · exact z.elim
/-! ### divmod, ** -/
def divmodD : List PyData → T AV := two2 (intD fun i j => if 0 < j ∧ j < 1073741824 then .ret (.sh (.tuple [.int (i / j), .int (i % j)])) else .err)
theorem ok_divmod : CallOk Tb B X.K (fun xs H Q => ∃ i j, xs = [V.int i, V.int j] ∧ CDiv i j ∧ ∀ p, H p = none → Q (V.ref p) (upd H p (.tup [.int (i / j), .int (i % j)]))) divmodD := call2 fun W F ρ σ H v w d e Q s a b q => by
  cases d with
  | int i => cases e with
    | int j =>
      obtain ⟨hz, q⟩ := hold_if q
      exact ⟨i, j, by rw [a.int, b.int], hz, s.mkT (vs := [.int (i / j), .int (i % j)]) (.cons (.int _) (.cons (.int _) .nil)) two_sz q⟩
    | _ => exact q.elim
  | _ => exact q.elim
def powD : PyData → PyData → T AV := intD fun i j => if 0 ≤ j ∧ j ≤ 1000000 ∧ i.natAbs < 2 ^ 64 then .ret (.sh (.int (i ^ j.toNat))) else .err
theorem ok_pow : OpOk Tb B X.K (rI CPow fun i j => .int (i ^ j.toNat)) powD := ok_int fun W F ρ σ H i j Q s q => by
  obtain ⟨hz, q⟩ := hold_if q
  exact ⟨i, j, rfl, rfl, hz, q W H _ (Ext.refl _) s (.int _)⟩
/-! ### constants of the module -/
theorem pd_gint {x : Str} {i : Int} {t : Nat} {pos : Pos} (hg : Gl X x) (hm : X.mg x = some (.int i t)) (hd : (x == ("__debug__" : Str)) = false := by decide) : PD Tb B X (.Name x pos) fun _ => T.ret (AV.sh (.int i)) := pd_con (pe_glob (v := .int i) hg hm ⟨t, rfl⟩ hd) fun _ => .int i
theorem pd_gstr {x a : Str} {t : Nat} {pos : Pos} (hg : Gl X x) (hm : X.mg x = some (.str a t)) (hd : (x == ("__debug__" : Str)) = false := by decide) : PD Tb B X (.Name x pos) fun _ => T.ret (AV.sh (.str a)) := pd_con (pe_glob (v := .str a) hg hm ⟨t, rfl⟩ hd) fun _ => .str a
end
end Dn
end
section
set_option Elab.async false
set_option linter.all false
set_option autoImplicit false
set_option maxRecDepth 100000
/-! Dn12: short words for what the rules tell. -/
namespace Dn
open PySem PySem.Spec PyProof.Rows L2 LamX

/-- a, not to be looked into by reckoning -/
noncomputable def shut {α : Type} (a : α) : α := Classical.choose (⟨a, rfl⟩ : ∃ b : α, b = a)
theorem shut_eq {α : Type} (a : α) : shut a = a := Classical.choose_spec (⟨a, rfl⟩ : ∃ b : α, b = a)
abbrev vD (i : Nat) : Env → T PyData := fun ρ => slotD ρ i
abbrev vA (i : Nat) : Env → T AV := fun ρ => slotA ρ i
abbrev oA (f : Env → T AV) : Env → T PyData := fun ρ => (f ρ).bind toD
abbrev kA (d : PyData) : Env → T AV := fun _ => .ret (.sh d)
abbrev fzA (f : Env → T AV) : Env → T AV := fun ρ => (f ρ).bind fun av => .ret (frz av)
abbrev bin (op : PyData → PyData → T AV) (a b : Env → T PyData) : Env → T AV := fun ρ => (a ρ).bind fun x => (b ρ).bind fun y => op x y
abbrev tB (f : Env → T AV) : Env → T Bool := fun ρ => (f ρ).bind toB
abbrev tNot (f : Env → T Bool) : Env → T Bool := fun ρ => (f ρ).bind fun b => .ret (!b)
abbrev tAnd (f g : Env → T Bool) : Env → T Bool := fun ρ => (f ρ).bind fun x => if x = true then g ρ else .ret false
abbrev tOr (f g : Env → T Bool) : Env → T Bool := fun ρ => (f ρ).bind fun x => if x = true then .ret true else g ρ
abbrev nA (f : Env → T AV) : Env → T AV := fun ρ => ((f ρ).bind toB).bind fun b => .ret (.sh (.bool (!b)))
abbrev andA (f g : Env → T AV) : Env → T AV := fun ρ => ((f ρ).bind toB).bind fun x => if x = true then g ρ else .ret (.sh (.bool false))
abbrev orA (f g : Env → T AV) : Env → T AV := fun ρ => ((f ρ).bind toB).bind fun x => if x = true then .ret (.sh (.bool true)) else g ρ
abbrev ifA (c : Env → T Bool) (f g : Env → T AV) : Env → T AV := fun ρ => (c ρ).bind fun x => if x = true then f ρ else g ρ
abbrev chA (op op' : PyData → PyData → T AV) (a b c : Env → T PyData) : Env → T AV := fun ρ => (a ρ).bind fun x => (b ρ).bind fun y => ((op x y).bind toB).bind fun k => if k = true then (c ρ).bind fun z => op' y z else .ret (.sh (.bool false))
abbrev a0 : Env → T (List AV) := fun _ => .ret []
abbrev aC (f : Env → T AV) (g : Env → T (List AV)) : Env → T (List AV) := fun ρ => (f ρ).bind fun a => (g ρ).bind fun as => .ret (frz a :: as)
abbrev b0 : Env → T (List PyData) := fun _ => .ret []
abbrev bC (f : Env → T PyData) (g : Env → T (List PyData)) : Env → T (List PyData) := fun ρ => (f ρ).bind fun a => (g ρ).bind fun as => .ret (a :: as)
abbrev cal {α β : Type} (f : α → T β) (g : Env → T α) : Env → T β := fun ρ => (g ρ).bind f
abbrev calK (n : Nat) (d : List AV → T AV) (pm : List Nat) (g : Env → T (List AV)) : Env → T AV := fun ρ => (g ρ).bind fun zs => calling n d (pick pm zs)
abbrev isA (S : String) (f : Env → T PyData) : Env → T AV := fun ρ => (f ρ).bind fun d => .ret (.sh (.bool (isTy S d)))
abbrev is2A (S U : String) (f : Env → T PyData) : Env → T AV := fun ρ => (f ρ).bind fun d => .ret (.sh (.bool (isTy S d || isTy U d)))
abbrev slA (f : Env → T PyData) (l h : Env → T (Option Int)) : Env → T AV := fun ρ => (f ρ).bind fun d => (l ρ).bind fun l => (h ρ).bind fun h => slD d l h
abbrev o0 : Env → T (Option Int) := fun _ => .ret none
abbrev oI (f : Env → T PyData) : Env → T (Option Int) := fun ρ => (f ρ).bind fun d => (toI d).bind fun i => .ret (some i)
abbrev ixL (f g : Env → T PyData) : Env → T AV := fun ρ => (f ρ).bind fun d => optT (lstOf d) fun ds => (g ρ).bind fun e => indexL ds e
abbrev itS (f : Env → T AV) : Env → T (List PyData) := fun ρ => ((f ρ).bind toS).bind itemsD
abbrev itR (f : Env → T PyData) : Env → T (List PyData) := fun ρ => (f ρ).bind fun d => match d with
  | .int j => if j ≤ 100000 ∧ -100000 ≤ j then .ret (upFrom 0 j.toNat) else .err
  | _ => .err
abbrev itR2 (f g : Env → T PyData) : Env → T (List PyData) := fun ρ => (f ρ).bind fun x => (g ρ).bind fun y => range2D x y
abbrev itZ (g : Env → T (List AV)) : Env → T (List PyData) := fun ρ => (g ρ).bind fun as => (allS as).bind zipD
abbrev itE (g : Env → T (List AV)) : Env → T (List PyData) := fun ρ => (g ρ).bind fun as => (allS as).bind enumD
abbrev gN (i : Nat) : PyData → Env → T Env := fun d ρ => .ret (ρ.set i (.sh d))
abbrev g0 : List PyData → Env → T Env := fun ds ρ => match ds with
  | [] => .ret ρ
  | _ => .err
abbrev lamA (n : Nat) (d : List AV → T AV) (m : Nat) (js : List Nat) (N : Nat) (fb : Env → T AV) (f : Env → T AV) : Env → T AV := fun ρ => (f ρ).bind fun a => (toS a).bind fun y => (calling n d [.sh y, .fn (lamG m js N fb ρ)]).bind dataA
abbrev xO (f : Env → T AV) : Env → T (PyData × Env) := fun ρ => (f ρ).bind fun av => (toS av).bind fun d => .ret (d, ρ)
abbrev sNil : Env → T Out := fun ρ => .ret (.nx ρ)
abbrev sRet (f : Env → T AV) : Env → T Out := fun ρ => (f ρ).bind fun av => .ret (.rt av)
abbrev sEx (f : Env → T AV) : Env → T Out := fun ρ => (f ρ).bind fun _ => .ret (.nx ρ)
abbrev sErr : Env → T Out := fun _ => .err
abbrev sBk : Env → T Out := fun ρ => .ret (.bk ρ)
abbrev sCt : Env → T Out := fun ρ => .ret (.ct ρ)
abbrev sShare (is : List Nat) (f : Env → T Out) : Env → T Out := fun ρ => f (share is ρ)
section
variable {Tb : List (Addr × Str)} {B : Wd → V → (List PyData → T PyData) → Prop} {X : Cx}
/-- a, b, c = e1, e2, e3 -/
def par3D (i j l : Nat) (f g h : Env → T AV) (ρ : Env) : T Out := (f ρ).bind fun a => (g ρ).bind fun b => (h ρ).bind fun c => (setV l c ρ).bind fun ρ1 => (setV j b ρ1).bind fun ρ2 => (setV i a ρ2).bind fun ρ3 => .ret (.nx ρ3)
theorem psd_par3 {i j l : Nat} {x y z : Str} {a b c : Expr} {f g h : Env → T AV} {px py pz pt : Pos} {kt k2 : Nat} {pt2 pos : Pos} (hc : X.calm = true) (hN : X.N.Nodup) (hi : X.N[i]? = some x) (hj : X.N[j]? = some y) (hl : X.N[l]? = some z) (hij : i ≠ j) (hil : i ≠ l) (hjl : j ≠ l)
    (hx : X.env.scope.names.lookup x = some .local) (hy : X.env.scope.names.lookup y = some .local) (hz : X.env.scope.names.lookup z = some .local) (ha : PD Tb B X a f) (hb : PD Tb B X b g) (hcc : PD Tb B X c h)
    (hw : swappedStores [.Tuple [.Name x px, .Name y py, .Name z pz] kt pt] (.Tuple [a, b, c] k2 pt2) X.env = pure (some [x, y, z]))
    (hs : swapsWithSole [.Tuple [.Name x px, .Name y py, .Name z pz] kt pt] (.Tuple [a, b, c] k2 pt2) pos.line X.env = pure false := by rfl)
    (h1 : starEach [a, b, c] X.env = (false, eval a X.env) :: starEach [b, c] X.env := by rfl) (h2 : starEach [b, c] X.env = (false, eval b X.env) :: starEach [c] X.env := by rfl) (h3 : starEach [c] X.env = (false, eval c X.env) :: starEach [] X.env := by rfl) :
    PSD Tb B X (.Assign [.Tuple [.Name x px, .Name y py, .Name z pz] kt pt] (.Tuple [a, b, c] k2 pt2) pos) (par3D i j l f g h) := by
  refine PS.weaken (ps_par3 hc hN hi hj hl hij hil hjl hx hy hz (pa_cons ha (pa_cons hb (pa_cons hcc pa_nil h3) h2) h1) hw hs) fun D σ H ⟨W, F, ρ, s, q⟩ => ?_
  refine ⟨W, F, ρ, s, (Hold.bind q).mono fun av z => rpost_of fun W1 H1 v F1 e1 g1 s1 => ?_⟩
  refine ⟨W1, F1, ρ, s1, (Hold.bind z).mono fun bv z => rpost_of fun W2 H2 w F2 e2 g2 s2 => ?_⟩
  refine ⟨W2, F2, ρ, s2, (Hold.bind z).mono fun cv z => rpost_of fun W3 H3 u F3 e3 g3 s3 => ?_⟩
  refine ⟨v, w, u, rfl, ?_⟩
  obtain ⟨hc0, z⟩ := Hold.setV (Hold.bind z)
  obtain ⟨hb0, z⟩ := Hold.setV (Hold.bind z)
  obtain ⟨ha0, z⟩ := Hold.setV (Hold.bind z)
  have s4 := ((s3.put (i := l) g3 hc0).put (i := j) (g2.ext e3) hb0).put (i := i) (g1.ext (e2.trans e3)) ha0
  have e5 : ((σ.set i (some v)).set j (some w)).set l (some u) = ((σ.set l (some u)).set j (some w)).set i (some v) := by
    rw [List.set_comm (some v) (some w) hij, List.set_comm (some v) (some u) hil, List.set_comm (some w) (some u) hjl]
  rw [e5]
  exact z W3 _ H3 ((e1.trans e2).trans e3) s4
end
section
variable {P : Program} {w : World} {K : PySem.W.Frag} {mg : Str → Option Value} {base : Heap} {Tb : List (Addr × Str)} {B : Wd → V → (List PyData → T PyData) → Prop}
/-- THE RULE of a def, its code object known -/
theorem fn_gc {x : Str} {st : Stmt} {N ps : List Str} {k : Nat} {body : Env → T Out} {fd : FuncData}
    (F : FunD K x x (defArgs st) (defBody st) (defScope st) [] [] (He.ga K x) fd) (S : FnScope N ps (defScope st)) (hm : mg x = some (.ref (He.ga K x))) (hN : ps.length ≤ N.length)
    (hb : ∀ (kV doc pm : Value) (an : Option Addr) (cdv ct : Value) (us : List Value), us.length = ps.length → bindArgs (PySem.W.fnOf x x (defArgs st) (defBody st) (defScope st) .none kV doc pm an cdv ct) ⟨us, []⟩ = pure (ps.zip us))
    (h : ∀ (A : Around) (outer : List PySem.Env) (s : Shared) (H : Hp), Room k (CxD P w K mg base N x st (He.ga K x) (.ref (He.codeOf K (x, none))) A outer s H).A → (CxD P w K mg base N x st (He.ga K x) (.ref (He.codeOf K (x, none))) A outer s H).A.guards = some [] → PSsD Tb B (CxD P w K mg base N x st (He.ga K x) (.ref (He.codeOf K (x, none))) A outer s H) (defBody st) body) :
    FnG P w K mg base Tb B x st ps (k + 1) (runD ps.length N.length body) := by
  refine ⟨fd, F, F.bindsN hb, hm, fun A outer s H args us vs Q hr hg e0 hbt r hs => ?_⟩
  obtain ⟨oc, od, dV, kV, doc, pm, an, cdv, ct, osl, rfl, lk, hcd, _, _⟩ := F.ex
  obtain ⟨c, rfl⟩ := He.codeIn_ref hcd
  have ec : He.codeOf K (x, none) = c := He.codeOf_eq (p := (x, none)) lk rfl
  refine run_ofS lk hcd S hr e0 hbt r (sp_len rfl vs H Q E0 hs) fun hr' => ⟨_, PSs.nox (ec ▸ h A outer s H (ec ▸ hr') hg), run_read hN hs⟩
end
end Dn
end
section
set_option Elab.async false
set_option linter.all false
set_option autoImplicit false
set_option maxRecDepth 100000
/-! Sn: sets of nested tuples of numbers. -/
namespace Sx
open PySem PySem.Spec PyProof.Rows L2

/-! ### keys made of numbers alone -/
mutual
def numK : NestedKey → Bool
  | .num _ => true
  | .tup ks => numAll ks
  | .none => false
  | .text _ => false
def numAll : List NestedKey → Bool
  | [] => true
  | k :: ks => numK k && numAll ks
end
section
variable {P : Program} {w : World}
def ByVal (P : Program) (w : World) (n : Nat) (s : Shared) (v : Value) : Prop := ∀ (A : Around) (E : Value → Shared → Prop) (Q : Bool → Shared → Prop), Q true s → wpAny (model P w) A (hashByValue n v) Q E s
def NoCls (P : Program) (w : World) (n : Nat) (s : Shared) (v : Value) : Prop := ∀ (A : Around) (E : Value → Shared → Prop) (Q : Bool → Shared → Prop), Q false s → wpAny (model P w) A (ofAClassStatement n v) Q E s
theorem atom_byval {k : NestedKey} {v : Value} {h : Heap} (r : NestedIs h k v) (hk : ∃ i, k = .num i) (n : Nat) (s : Shared) : ByVal P w n s v ∧ NoCls P w n s v := by
  obtain ⟨i, rfl⟩ := hk
  cases r with
  | bool e => exact ⟨fun A E Q q => by cases n <;> exact wpAny_pure q, fun A E Q q => by cases n <;> exact wpAny_pure q⟩
  | int i t => exact ⟨fun A E Q q => by cases n <;> exact wpAny_pure q, fun A E Q q => by cases n <;> exact wpAny_pure q⟩
theorem tup_byval {a : Addr} {o : Obj} {vs : Array Value} {m n : Nat} {s : Shared} (ho : s.heap.get? a = some o) (hc : o.cls = .type "tuple") (hd : o.data = .seq vs m) (hv : ∀ v ∈ vs.toList, ByVal P w n s v) : ByVal P w (n + 1) s (.ref a) := fun A E Q q => by
  have hT : s.TypeIs (.ref a) "tuple" := ⟨o, ho, hc⟩
  unfold hashByValue
  refine wpAny_bind (wpAny_specialOf hT F.slot_tuple_hash.lookup ?_)
  show wpAny _ _ (seqItems? (.ref a) >>= _) _ _ s
  refine wpAny_bind (wpAny_seqItems ho hd (wpAny_bind ?_))
  show wpAny _ _ (forIn vs _ _) _ _ s
  rw [← Array.forIn_toList]
  refine wpAny_forIn_list _ (fun l r s1 => (r.1 = none ∧ s1 = s) ∧ ∀ v ∈ l, ByVal P w n s v) _ ?_ ?_ _ _ ⟨⟨rfl, rfl⟩, hv⟩
  · rintro v l r s1 ⟨⟨h1, rfl⟩, hl⟩
    refine wpAny_bind (hl v List.mem_cons_self _ _ _ ?_)
    simp only [Bool.not_true, Bool.false_eq_true, if_false]
    exact wpAny_pure ⟨⟨rfl, rfl⟩, fun u hu => hl u (List.mem_cons_of_mem _ hu)⟩
  · rintro ⟨r1, r2⟩ s1 ⟨⟨h1, rfl⟩, _⟩
    dsimp only at h1
    subst h1
    exact wpAny_pure q
theorem tup_nocls {a : Addr} {o : Obj} {vs : Array Value} {m n : Nat} {s : Shared} (ho : s.heap.get? a = some o) (hc : o.cls = .type "tuple") (hd : o.data = .seq vs m) (hv : ∀ v ∈ vs.toList, NoCls P w n s v) : NoCls P w (n + 1) s (.ref a) := fun A E Q q => by
  have hT : s.TypeIs (.ref a) "tuple" := ⟨o, ho, hc⟩
  unfold ofAClassStatement
  refine wpAny_bind (wpAny_typeOf hT ?_)
  dsimp only
  have e : (("tuple" : String) == "tuple") = true := by decide
  simp only [e, if_true, Bool.not_true, Bool.false_eq_true, if_false]
  try refine wpAny_bind (wpAny_pure ?_)
  try simp only [Bool.not_true, Bool.false_eq_true, if_false]
  show wpAny _ _ (seqItems? (.ref a) >>= _) _ _ s
  refine wpAny_bind (wpAny_seqItems ho hd ?_)
  dsimp only
  refine wpAny_bind ?_
  show wpAny _ _ (forIn vs _ _) _ _ s
  rw [← Array.forIn_toList]
  refine wpAny_forIn_list _ (fun l r s1 => (r.1 = none ∧ s1 = s) ∧ ∀ v ∈ l, NoCls P w n s v) _ ?_ ?_ _ _ ⟨⟨rfl, rfl⟩, hv⟩
  · rintro v l r s1 ⟨⟨h1, rfl⟩, hl⟩
    refine wpAny_bind (hl v List.mem_cons_self _ _ _ ?_)
    simp only [Bool.false_eq_true, if_false]
    exact wpAny_pure ⟨⟨rfl, rfl⟩, fun u hu => hl u (List.mem_cons_of_mem _ hu)⟩
  · rintro ⟨r1, r2⟩ s1 ⟨⟨h1, rfl⟩, _⟩
    dsimp only at h1
    subst h1
    exact wpAny_pure q
mutual
theorem key_byval : ∀ (k : NestedKey) (v : Value) (n : Nat) (s : Shared), NestedIs s.heap k v → numK k = true → k.depth ≤ n → ByVal P w n s v ∧ NoCls P w n s v
  | .none, _, _, _, _, hk, _ => by simp [numK] at hk
  | .text _, _, _, _, _, hk, _ => by simp [numK] at hk
  | .num i, _, n, s, r, _, _ => atom_byval r ⟨i, rfl⟩ n s
  | .tup ks, _, n, s, r, hk, hn => by
    cases r with
    | tup h1 h2 h3 h4 =>
      rw [NestedKey.depth] at hn
      rw [numK] at hk
      cases n with
      | zero => omega
      | succ n =>
        have z := keys_byval ks _ n s h4 hk (by omega)
        exact ⟨tup_byval h1 h2 h3 fun v hv => (z v hv).1, tup_nocls h1 h2 h3 fun v hv => (z v hv).2⟩
theorem keys_byval : ∀ (ks : List NestedKey) (vs : List Value) (n : Nat) (s : Shared), NestedAll s.heap ks vs → numAll ks = true → NestedKey.depthAll ks ≤ n → ∀ v ∈ vs, ByVal P w n s v ∧ NoCls P w n s v
  | [], _, _, _, r, _, _, v, hv => by
    cases r
    cases hv
  | k :: ks, _, n, s, r, hk, hn, v, hv => by
    cases r with
    | cons r1 r2 =>
      rw [numAll, Bool.and_eq_true] at hk
      rw [NestedKey.depthAll] at hn
      rcases List.mem_cons.mp hv with e | hv
      · rw [e]
        exact key_byval k _ n s r1 hk.1 (by omega)
      · exact keys_byval ks _ n s r2 hk.2 (by omega) v hv
end
end
/-- the tuple at a is the key k -/
structure KeyAt (h : Heap) (k : NestedKey) (a : Addr) : Prop where
  is : NestedIs h k (.ref a)
  dp : k.depth ≤ 8
  nm : numK k = true
theorem KeyAt.keep {h h' : Heap} {k : NestedKey} {a : Addr} (x : KeyAt h k a) (hk : ∀ b o vs n, h.get? b = some o → o.data = .seq vs n → h'.get? b = some o) : KeyAt h' k a := ⟨NestedIs.at hk _ _ x.is, x.dp, x.nm⟩
theorem KeyAt.inj {h : Heap} {k k' : NestedKey} {a : Addr} (x : KeyAt h k a) (y : KeyAt h k' a) : k = k' := NestedIs.inj _ _ _ x.is y.is
theorem KeyAt.tup {h : Heap} {k : NestedKey} {a : Addr} (x : KeyAt h k a) : ∃ o vs n, h.get? a = some o ∧ o.cls = .type "tuple" ∧ o.data = .seq vs n := by
  cases x.is with
  | tup h1 h2 h3 _ => exact ⟨_, _, _, h1, h2, h3⟩
/-- a set's store changes no tuple -/
theorem KeyAt.same {h h' : Heap} {k : NestedKey} {a b : Addr} {o : Obj} {es : Array (Int × Value)} {ep : Nat} {t : SetTable} (x : KeyAt h k b) (ho : h.get? a = some o) (hd : o.data = .set es ep t) (hs : Heap.SameBut a h h') : KeyAt h' k b :=
  x.keep fun c u vs n hc hu => (hs.2 c fun e => by
    rw [e, ho] at hc
    cases hc
    rw [hd] at hu
    cases hu).trans hc

section
variable {P : Program} {w : World} {A : Around} {E : Value → Shared → Prop} {s : Shared}
/-- looking among tuples of numbers tells nothing -/
theorem seen_keys {k : NestedKey} {b : Addr} {Q : Bool → Shared → Prop} (hk : KeyAt s.heap k b) {ys : List Value} (hy : ∀ y ∈ ys, ∃ k' c, y = Value.ref c ∧ KeyAt s.heap k' c) (h : Q false s) : wpAny (model P w) A (searchCouldBeSeen (.ref b) ys) Q E s := by
  unfold searchCouldBeSeen
  refine wpAny_bind (wpAny_forIn_list _ (fun l r s1 => (r.1 = none ∧ s1 = s) ∧ ∀ y ∈ l, ∃ k' c, y = Value.ref c ∧ KeyAt s.heap k' c) _ ?_ ?_ _ _ ⟨⟨rfl, rfl⟩, hy⟩)
  · rintro v l r s1 ⟨⟨h1, rfl⟩, hl⟩
    obtain ⟨k', c, rfl, hc⟩ := hl v List.mem_cons_self
    have more : ∀ y ∈ l, ∃ k' c, y = Value.ref c ∧ KeyAt s1.heap k' c := fun u hu => hl u (List.mem_cons_of_mem _ hu)
    dsimp only
    by_cases same : (b == c || (carriedByValue (.ref b) && carriedByValue (.ref c))) = true
    · exact wp_if_pos same (wpAny_pure ⟨⟨rfl, rfl⟩, more⟩)
    · refine wp_if_neg same (wpAny_bind (quiet_key k _ 8 _ hk.is hk.dp _ _ _ ?_))
      simp only [Bool.not_true, Bool.false_eq_true, if_false]
      refine wpAny_bind (quiet_key k' _ 8 _ hc.is hc.dp _ _ _ ?_)
      simp only [Bool.not_true, Bool.false_eq_true, if_false]
      refine wpAny_bind ((key_byval k _ 8 _ hk.is hk.nm hk.dp).2 _ _ _ ?_)
      simp only [Bool.false_eq_true, if_false]
      refine wpAny_bind ((key_byval k' _ 8 _ hc.is hc.nm hc.dp).2 _ _ _ ?_)
      simp only [Bool.false_eq_true, if_false]
      exact wpAny_pure ⟨⟨rfl, rfl⟩, more⟩
  · rintro ⟨r1, r2⟩ s1 ⟨⟨h1, rfl⟩, _⟩
    dsimp only at h1
    subst h1
    exact wpAny_pure h
theorem eq_keys {k k' : NestedKey} {a b : Addr} {Q : Bool → Shared → Prop} (hu : A.units + 8 < cLine) (x : KeyAt s.heap k a) (y : KeyAt s.heap k' b) (h : Q (decide (k = k')) s) : wpAny (model P w) A (eqBool (.ref a) (.ref b)) Q E s :=
  (nestedKind P w).eqBool hu ⟨x.is, x.dp⟩ ⟨y.is, y.dp⟩ h

/-! ### the set -/
abbrev Ent := Addr × NestedKey
def rowsN (w : World) (L : List Ent) : List (Int × Value) := L.map fun p => (p.2.hash w, Value.ref p.1)
def hashN (w : World) (L : List Ent) : List Int := L.map fun p => p.2.hash w
structure NSet (w : World) (h : Heap) (a : Addr) (L : List Ent) (es : Array (Int × Value)) (ep : Nat) (t : SetTable) : Prop where
  ob : ∃ o, h.get? a = some o ∧ o.ExactSet ∧ o.data = .set es ep t
  rows : es.toList = rowsN w L
  tab : TabOk t (hashN w L)
  nd : (L.map (·.2)).Nodup
  keys : ∀ p ∈ L, KeyAt h p.2 p.1
  pl : t.plain = true
  ld : w.params.followText "set-order" = true ∨ t.led = true
  room : L.length * 5 < t.mask * 3
variable {a : Addr} {L : List Ent} {es : Array (Int × Value)} {ep : Nat} {t : SetTable}
theorem rowsN_len {w : World} {L : List Ent} {es : Array (Int × Value)} (h : es.toList = rowsN w L) : es.size = L.length := by
  have q := congrArg List.length h
  rwa [rowsN, Array.length_toList, List.length_map] at q
theorem hashN_len (w : World) (L : List Ent) : (hashN w L).length = L.length := List.length_map _
theorem NSet.size (R : NSet w s.heap a L es ep t) : es.size = L.length := rowsN_len R.rows
theorem NSet.places (R : NSet w s.heap a L es ep t) : t.place.toList.length = L.length := by
  rw [Array.length_toList, R.tab.sz, hashN_len]
theorem NSet.fits (R : NSet w s.heap a L es ep t) : t.fits es.size = true := by
  have h1 := R.tab.sz
  rw [hashN_len] at h1
  have h2 := R.size
  have h3 := R.room
  unfold SetTable.fits SetTable.fill
  rw [R.tab.dm, Bool.and_eq_true, beq_iff_eq, decide_eq_true_eq]
  show t.place.size = es.size ∧ t.place.size + 0 ≤ t.mask
  omega
theorem rowsN_at {w : World} {L : List Ent} {es : Array (Int × Value)} (hr : es.toList = rowsN w L) {i : Nat} {p : Ent} (h : L[i]? = some p) : es[i]? = some (p.2.hash w, Value.ref p.1) := by
  rw [← Array.getElem?_toList, hr, rowsN, List.getElem?_map, h]
  rfl
theorem NSet.odd (R : NSet w s.heap a L es ep t) : ¬ t.gaveWay = true := by
  unfold SetTable.gaveWay
  rw [mask_odd R.tab.mok]
  decide
/-- the state of the probing after c steps -/
abbrev stp (t : SetTable) (h : Int) (c : Nat) : SetTable.Probe := nth t.mask (runAt t.mask (SetTable.bits h % (t.mask + 1)) (SetTable.bits h)) c
theorem stp_add (t : SetTable) (h : Int) (c q : Nat) : nth t.mask (stp t h c) q = stp t h (c + q) := (nth_add t.mask c _ q).symm
theorem stp_dm (t : SetTable) (h : Int) : ∀ c, (stp t h c).dummy = none
  | 0 => rfl
  | c + 1 => by
    show (nth t.mask _ (c + 1)).dummy = none
    rw [nth_succ]
    have ih : (nth t.mask (runAt t.mask (SetTable.bits h % (t.mask + 1)) (SetTable.bits h)) c).dummy = none := stp_dm t h c
    unfold adv
    split
    · exact ih
    · exact ih
/-- looking for a key, from the c-th step on -/
theorem look_from (R : NSet w s.heap a L es ep t) {x : Addr} {k : NestedKey} (hx : KeyAt s.heap k x) (hu : A.units + 8 < cLine) {K : Nat} (hKf : K < 10 * SetTable.turns t.mask)
    (hK : way t.mask (k.hash w) K ∉ t.place.toList) (hKb : ∀ c, c < K → way t.mask (k.hash w) c ∈ t.place.toList) {Q : SetFound → Shared → Prop}
    (hin : k ∈ L.map (·.2) → Q (.there none) s) (hout : k ∉ L.map (·.2) → Q (.free (way t.mask (k.hash w) K) false) s) :
    ∀ (f c : Nat) (st : Option SetTable.Probe), st.getD (t.probeStart (k.hash w)) = stp t (k.hash w) c → c ≤ K → K - c < f →
      (∀ (i : Nat) p, L[i]? = some p → p.2 = k → ∃ c', c ≤ c' ∧ c' < K ∧ t.place.toList[i]? = some (way t.mask (k.hash w) c')) →
      wpAny (model P w) A (setSearchFrom a (.ref x) (k.hash w) true f st) Q E s
  | 0, _, _, _, _, hf, _ => absurd hf (Nat.not_lt_zero _)
  | f + 1, c, st, hst, hc, hf, hre => by
    obtain ⟨o, ho, hex, hd⟩ := R.ob
    rw [setSearchFrom_succ]
    refine wpAny_bind (wpAny_setState_of ho hd R.fits ?_)
    dsimp only
    refine wp_if_neg R.odd ?_
    try refine wpAny_bind (wpAny_pure ?_)
    have ej : ∀ q, (nth t.mask (stp t (k.hash w) c) q).j = way t.mask (k.hash w) (c + q) := fun q => congrArg SetTable.Probe.j (stp_add t _ c q)
    have hash_at : ∀ (i : Nat) p, L[i]? = some p → (fun i => (es[i]?.map (·.1)).getD 0) i = p.2.hash w := fun i p hp => by
      show (es[i]?.map (·.1)).getD 0 = _
      rw [rowsN_at R.rows hp]
      rfl
    rcases go_spec t R.tab.ris R.tab.dm (fun i => (es[i]?.map (·.1)).getD 0) (k.hash w) (10 * SetTable.turns t.mask) (K - c) _ (stp_dm t (k.hash w) c) (by omega)
      (fun q hq => by rw [ej]; exact hKb (c + q) (by omega)) (by rw [ej, show c + (K - c) = K by omega]; exact hK) with ⟨q, i, hq, hi, hh, hno, hpr⟩ | ⟨hno, hpr⟩
    · have hpr2 : t.probe (fun i => (es[i]?.map (·.1)).getD 0) (k.hash w) (st.getD (t.probeStart (k.hash w))) = some (.candidate (way t.mask (k.hash w) (c + q)) i (stp t (k.hash w) (c + (q + 1)))) := by
        rw [hst, ← ej, ← stp_add]
        exact hpr
      rw [hpr2]
      dsimp only
      rw [ej] at hi
      have hil : i < L.length := by
        rw [← R.places]
        exact (List.getElem?_eq_some_iff.mp hi).1
      have hp : L[i]? = some L[i] := List.getElem?_eq_getElem hil
      generalize L[i] = p at hp
      have hmem : p ∈ L := List.mem_of_getElem? hp
      have hsl : t.slot (way t.mask (k.hash w) (c + q)) = .live i := slot_live R.tab.ris hi
      have further : wpAny (model P w) A (searchRest a (.ref x) (k.hash w) true f es t (way t.mask (k.hash w) (c + q)) i (stp t (k.hash w) (c + (q + 1)))) Q E s := by
        unfold searchRest
        rw [rowsN_at R.rows hp]
        dsimp only
        refine wpAny_bind (wpAny_holding (eq_keys hu (R.keys p hmem) hx ?_))
        refine wpAny_bind (wpAny_setState_of ho hd R.fits ?_)
        dsimp only
        by_cases hkk : p.2 = k
        · exact wp_if_pos (by simp [hkk]) (wpAny_pure (hin (List.mem_map.mpr ⟨p, hmem, hkk⟩)))
        · refine wp_if_neg (by simp [hkk]) ?_
          try refine wpAny_bind (wpAny_pure ?_)
          rw [sameMem]
          dsimp only
          simp only [if_true, hsl, rowsN_at R.rows hp]
          refine wpAny_bind (wpAny_isSame_ref_self (wpAny_bind (wpAny_pure ?_)))
          simp only [if_true]
          refine wp_if_neg (by simp [hkk]) ?_
          refine look_from R hx hu hKf hK hKb hin hout f (c + (q + 1)) _ rfl (by omega) (by omega) fun i0 p0 h0 hk0 => ?_
          obtain ⟨c', a1, a2, a3⟩ := hre i0 p0 h0 hk0
          refine ⟨c', ?_, a2, a3⟩
          rcases Nat.lt_trichotomy c' (c + q) with z | z | z
          · exfalso
            refine hno (c' - c) i0 (by omega) (by rw [ej, show c + (c' - c) = c' by omega]; exact a3) ?_
            exact (hash_at i0 p0 h0).trans (by rw [hk0])
          · exfalso
            rw [z] at a3
            have s0 := slot_live R.tab.ris a3
            rw [hsl] at s0
            injection s0 with s0
            rw [← s0, hp] at h0
            exact hkk ((congrArg Prod.snd (Option.some.inj h0)).trans hk0)
          · omega
      by_cases hl : t.led = true
      · refine wp_if_neg (by simp [hl]) ?_
        try refine wpAny_bind (wpAny_pure ?_)
        exact further
      · refine wp_if_pos (by simp [hl]) (wpAny_bind (seen_keys hx (fun y hy => ?_) ?_))
        · obtain ⟨e, he, rfl⟩ := List.mem_map.mp hy
          have he2 : e ∈ es.toList := by
            have z : e ∈ es ∧ e.1 = k.hash w := by simpa using he
            simpa using z.1
          rw [R.rows] at he2
          obtain ⟨p2, hp2, rfl⟩ := List.mem_map.mp he2
          exact ⟨p2.2, p2.1, rfl, R.keys p2 hp2⟩
        · refine wp_if_neg (by decide) ?_
          try refine wpAny_bind (wpAny_pure ?_)
          exact further
    · have hpr2 : t.probe (fun i => (es[i]?.map (·.1)).getD 0) (k.hash w) (st.getD (t.probeStart (k.hash w))) = some (.empty (way t.mask (k.hash w) K) none) := by
        have e2 : way t.mask (k.hash w) K = (nth t.mask (stp t (k.hash w) c) (K - c)).j := by rw [ej, show c + (K - c) = K by omega]
        rw [hst, e2]
        exact hpr
      rw [hpr2]
      dsimp only
      refine wpAny_pure (hout fun hm => ?_)
      obtain ⟨p0, h0, hk0⟩ := List.mem_map.mp hm
      obtain ⟨i0, hi0, e0⟩ := List.getElem_of_mem h0
      have h00 : L[i0]? = some p0 := by rw [List.getElem?_eq_getElem hi0, e0]
      obtain ⟨c', a1, a2, a3⟩ := hre i0 p0 h00 hk0
      exact hno (c' - c) i0 (by omega) (by rw [ej, show c + (c' - c) = c' by omega]; exact a3) ((hash_at i0 p0 h00).trans (by rw [hk0]))
theorem look_at (R : NSet w s.heap a L es ep t) {x : Addr} {k : NestedKey} (hx : KeyAt s.heap k x) (hu : A.units + 8 < cLine) {Q : SetFound → Shared → Prop} (hin : k ∈ L.map (·.2) → Q (.there none) s)
    (hout : ∀ K, k ∉ L.map (·.2) → way t.mask (k.hash w) K ∉ t.place.toList → (∀ c, c < K → way t.mask (k.hash w) c ∈ t.place.toList) → Q (.free (way t.mask (k.hash w) K) false) s) :
    wpAny (model P w) A (setSearch a (.ref x) (k.hash w) true) Q E s := by
  have hroom := R.room
  obtain ⟨K, hKf, hK, hKb⟩ := R.tab.first (by rw [hashN_len]; omega) (k.hash w)
  have small : 10 * SetTable.turns t.mask ≤ 1420 := by
    unfold SetTable.turns
    rcases R.tab.mok with e | e | e <;> omega
  unfold setSearch
  refine look_from R hx hu hKf hK hKb hin (fun hn => hout K hn hK hKb) 100000 0 none rfl (Nat.zero_le _) (by omega) fun i p hp hk => ?_
  have hi : (hashN w L)[i]? = some (k.hash w) := by
    rw [hashN, List.getElem?_map, hp, ← hk]
    rfl
  have hil : i < t.place.toList.length := by
    rw [R.places]
    exact (List.getElem?_eq_some_iff.mp hp).1
  have hj := List.getElem?_eq_getElem hil
  obtain ⟨c, hc, e⟩ := R.tab.before hK hi hj
  exact ⟨c, Nat.zero_le _, hc, by rw [hj, e]⟩
/-- the entries in another order -/
theorem rowsN_order (L : List Ent) (es : Array (Int × Value)) (order : Array Nat) (hr : es.toList = rowsN w L) (hp : order.toList.Perm (List.range L.length)) :
    ∃ L2, (order.filterMap (es[·]?)).toList = rowsN w L2 ∧ L2.Perm L ∧ hashN w L2 = order.toList.map fun i => (es.map (·.1)).getD i 0 := by
  have hsz := rowsN_len hr
  have key : ∀ l : List Nat, (∀ i ∈ l, i < L.length) → l.filterMap (fun i => es[i]?) = rowsN w (l.filterMap fun i => L[i]?) ∧ hashN w (l.filterMap fun i => L[i]?) = l.map fun i => (es.map (·.1)).getD i 0 := by
    intro l
    induction l with
    | nil => exact fun _ => ⟨rfl, rfl⟩
    | cons i l ih =>
      intro hl
      have hi := hl i List.mem_cons_self
      obtain ⟨e1, e3⟩ := ih fun j hj => hl j (List.mem_cons_of_mem _ hj)
      have eL : L[i]? = some L[i] := List.getElem?_eq_getElem hi
      have eE := rowsN_at hr eL
      rw [List.filterMap_cons_some eE, List.filterMap_cons_some eL, e1, List.map_cons]
      refine ⟨rfl, ?_⟩
      have e4 : (es.map (·.1)).getD i 0 = (L[i]).2.hash w := by
        have e5 : (es.map (·.1))[i]? = some ((L[i]).2.hash w) := by
          rw [Array.getElem?_map, eE]
          rfl
        simp [Array.getD_eq_getD_getElem?, e5]
      rw [e4, ← e3]
      rfl
  obtain ⟨e1, e3⟩ := key order.toList fun i hi => List.mem_range.mp (hp.mem_iff.mp hi)
  refine ⟨order.toList.filterMap fun i => L[i]?, by first | (rw [Array.toList_filterMap]; exact e1) | simpa using e1, ?_, e3⟩
  have h2 : (List.range L.length).filterMap (fun i => L[i]?) = L := by
    apply List.ext_getElem?
    have all : ∀ n, n ≤ L.length → (List.range n).filterMap (fun i => L[i]?) = L.take n := by
      intro n
      induction n with
      | zero => exact fun _ => rfl
      | succ n ih =>
        intro hn
        have hlt : n < L.length := hn
        rw [List.range_succ, List.filterMap_append, ih (Nat.le_of_lt hlt), List.take_succ, List.getElem?_eq_getElem hlt, List.filterMap_cons_some (List.getElem?_eq_getElem hlt)]
        rfl
    rw [all L.length (Nat.le_refl _), List.take_length]
    exact fun _ => rfl
  have h1 := hp.filterMap fun i => L[i]?
  rwa [h2] at h1
/-- the table laid anew -/
theorem relay_keys {o : Obj} (ho : s.heap.get? a = some o) (hex : o.ExactSet) (hd : o.data = .set es ep t) (hr : es.toList = rowsN w L) (hsz : t.place.size = es.size) (hdm : t.dummies = #[]) (hfl : es.size ≤ t.mask)
    (nd : (L.map (·.2)).Nodup) (keys : ∀ p ∈ L, KeyAt s.heap p.2 p.1) (pl : t.plain = true) (ld : w.params.followText "set-order" = true ∨ t.led = true) {wanted M : Nat}
    (hw : SetTable.sizeAbove wanted - 1 = M) (hM : MaskOk M) (hw2 : SetTable.sizeAbove wanted ≤ 128) (hn : L.length * 5 < M * 3) {Q : Unit → Shared → Prop}
    (hQ : ∀ h' L' es' ep' t', Heap.SameBut a s.heap h' → NSet w h' a L' es' ep' t' → L'.Perm L → Q () { s with heap := h' }) : wpAny (model P w) A (setRelay a wanted) Q E s := by
  have hsl := rowsN_len hr
  have hML : M ≤ 127 := by rcases hM with e | e | e <;> omega
  have hfits : t.fits es.size = true := by
    unfold SetTable.fits SetTable.fill
    rw [hdm, Bool.and_eq_true, beq_iff_eq, decide_eq_true_eq]
    show t.place.size = es.size ∧ t.place.size + 0 ≤ t.mask
    omega
  obtain ⟨t', order, e, hp, T, em, el, epl, ed⟩ := relaid_ok t (hs := es.map (·.1)) (wanted := wanted) hw hM (by rw [Array.size_map, hsl]; omega)
  rw [Array.size_map, hsl] at hp
  obtain ⟨L2, r1, r2, r3⟩ := rowsN_order L es order hr hp
  rw [← r3] at T
  have hs2 : (order.filterMap (es[·]?)).size = es.size := by rw [rowsN_len r1, r2.length_eq, hsl]
  rw [setRelay_eq]
  refine wpAny_bind (wpAny_setState_of ho hd hfits ?_)
  dsimp only
  refine wp_if_neg (by rw [sizeLine_eq]; omega) ?_
  try refine wpAny_bind (wpAny_pure ?_)
  rw [e]
  dsimp only
  refine wpAny_bind ?_
  refine wp_if_neg (by rw [hs2]; simp) ?_
  try refine wpAny_bind (wpAny_pure ?_)
  refine wpAny_pure ?_
  dsimp only
  refine wpAny_storeSet_of ho hd ?_ (by rw [hs2, hsl, sizeLine_eq]; omega)
  have sb : Heap.SameBut a s.heap (s.heap.update a (Obj.putSet (order.filterMap (es[·]?)) t')) := Heap.SameBut.update ..
  refine hQ _ L2 (order.filterMap (es[·]?)) (ep + 1) t' sb ⟨⟨_, store_at ho hd, ⟨hex.1, hex.2.1, hex.2.2⟩, rfl⟩, r1, T, (r2.map (·.2)).nodup_iff.mpr nd, fun p hpm => (keys p (r2.mem_iff.mp hpm)).same ho hd sb, by rw [epl]; exact pl, by rw [el]; exact ld, ?_⟩ r2
  rw [r2.length_eq, em]
  exact hn
/-- one key more -/
theorem add_key (R : NSet w s.heap a L es ep t) {x : Addr} {k : NestedKey} (hx : KeyAt s.heap k x) (hu : A.units + 8 < cLine) (hfew : L.length + 1 ≤ 76) {Q : Bool → Shared → Prop}
    (hQ : ∀ b h' L' es' ep' t', Heap.SameBut a s.heap h' → NSet w h' a L' es' ep' t' → (k ∈ L.map (·.2) → L' = L) → (k ∉ L.map (·.2) → L'.Perm ((x, k) :: L)) → Q b { s with heap := h' }) :
    wpAny (model P w) A (setAddHashed a (.ref x) (k.hash w)) Q E s := by
  obtain ⟨o, ho, hex, hd⟩ := R.ob
  have hsl := R.size
  have hroom := R.room
  unfold setAddHashed
  refine wpAny_holding ?_
  rw [show (100000 : Nat) = 99999 + 1 from rfl, setAddHashedIn_succ]
  refine wpAny_bind (wpAny_setState_of ho hd R.fits ?_)
  dsimp only
  refine wp_if_neg (by simp [byScan, Value.scannable]) ?_
  try refine wpAny_bind (wpAny_pure ?_)
  refine wpAny_bind (look_at R hx hu (fun hm => ?_) fun K hm hK hb => ?_)
  · dsimp only
    exact wpAny_pure (hQ false s.heap L es ep t (Heap.SameBut.refl a s.heap) R (fun _ => rfl) fun z => absurd hm z)
  · dsimp only
    refine wpAny_bind (wpAny_setState_of ho hd R.fits ?_)
    dsimp only
    obtain ⟨q1, q2, q3, q4, q5, q6, q7, q8, q9⟩ := R.tab.put hK hb
    have hp1 : (t.put (way t.mask (k.hash w) K)).1.plain = true := by rw [q6]; exact R.pl
    generalize hpt : t.put (way t.mask (k.hash w) K) = pt at q1 q3 q4 q5 q6 q7 q8 q9 hp1 ⊢
    obtain ⟨t1, p⟩ := pt
    dsimp only at q1 q3 q4 q5 q6 q7 q8 q9 hp1 ⊢
    subst q1
    have bv := (key_byval (P := P) (w := w) k _ 8 s hx.is hx.nm hx.dp).1
    first
      | (refine wpAny_bind ?_; refine wp_if_pos hp1 ?_; refine bv _ _ _ ?_)
      | refine wp_if_pos hp1 (wpAny_bind (bv _ _ _ ?_))
    simp only [if_true]
    generalize hpp : SetTable.below t.place (way t.mask (k.hash w) K) = p at q2 q3
    have hin : (SetTable.insertAt es p (k.hash w, Value.ref x)).toList = rowsN w (L.take p ++ (x, k) :: L.drop p) := by
      rw [SetTable.toList_insertAt, R.rows, rowsN, rowsN, List.map_append, List.map_cons, List.map_take, List.map_drop]
    have pm := put_perm L p (x, k)
    have hlen : (L.take p ++ (x, k) :: L.drop p).length = L.length + 1 := pm.length_eq
    have hhs : hashN w (L.take p ++ (x, k) :: L.drop p) = (hashN w L).take p ++ k.hash w :: (hashN w L).drop p := by
      rw [hashN, hashN, List.map_append, List.map_cons, List.map_take, List.map_drop]
    rw [← hhs] at q3
    rw [hashN_len] at q9
    have nd1 : ((L.take p ++ (x, k) :: L.drop p).map (·.2)).Nodup := by
      refine (pm.map (·.2)).nodup_iff.mpr ?_
      rw [List.map_cons]
      exact List.nodup_cons.mpr ⟨hm, R.nd⟩
    have hes : (SetTable.insertAt es p (k.hash w, Value.ref x)).size = L.length + 1 := by rw [rowsN_len hin, hlen]
    generalize SetTable.insertAt es p (k.hash w, Value.ref x) = es1 at hin hes ⊢
    generalize L.take p ++ (x, k) :: L.drop p = L1 at pm hlen q3 nd1 hin
    refine wpAny_bind (wpAny_storeSet_of ho hd ?_ (by rw [hes, sizeLine_eq]; omega))
    have sb : Heap.SameBut a s.heap (s.heap.update a (Obj.putSet es1 t1)) := Heap.SameBut.update ..
    have ho1 := store_at (es' := es1) (t' := t1) ho hd
    generalize s.heap.update a (Obj.putSet es1 t1) = h1 at sb ho1 ⊢
    have keys1 : ∀ p ∈ L1, KeyAt h1 p.2 p.1 := fun p hp => by
      rcases List.mem_cons.mp (pm.mem_iff.mp hp) with e | hp
      · rw [e]
        exact hx.same ho hd sb
      · exact (R.keys p hp).same ho hd sb
    have ld1 : w.params.followText "set-order" = true ∨ t1.led = true := by rw [q5]; exact R.ld
    by_cases hf : t1.tooFull = true
    · first
        | (refine wpAny_bind ?_; refine wp_if_pos (by simp [hf]) ?_)
        | (refine wp_if_pos (by simp [hf]) ?_; refine wpAny_bind ?_)
      have hfull : (L.length + 1) * 5 ≥ t1.mask * 3 := by
        have h := hf
        unfold SetTable.tooFull at h
        rwa [decide_eq_true_eq, q9] at h
      rw [hsl]
      have hsz1 : t1.place.size = es1.size := by
        have h := q3.sz
        rw [hashN_len, hlen] at h
        rw [h, hes]
      have two : (t.mask = 7 ∧ L.length = 4) ∨ (t.mask = 31 ∧ L.length = 18) := by
        rw [q4] at hfull
        rcases R.tab.mok with e | e | e
        · left; rw [e] at hroom hfull; exact ⟨e, by omega⟩
        · right; rw [e] at hroom hfull; exact ⟨e, by omega⟩
        · exfalso; rw [e] at hfull; omega
      have go : ∀ M, SetTable.sizeAbove (SetTable.grown (L.length + 1)) - 1 = M → MaskOk M → SetTable.sizeAbove (SetTable.grown (L.length + 1)) ≤ 128 → (L.length + 1) * 5 < M * 3 →
          wpAny (model P w) A (setRelay a (SetTable.grown (L.length + 1))) (fun _ s' => wpAny (model P w) A (pure true) Q E s') E { s with heap := h1 } := fun M g1 g2 g3 g4 => by
        refine relay_keys (s := { s with heap := h1 }) ho1 ⟨hex.1, hex.2.1, hex.2.2⟩ rfl hin hsz1 q3.dm (by rw [hes, q4]; rcases two with ⟨e, e2⟩ | ⟨e, e2⟩ <;> omega) nd1 keys1 hp1 ld1 g1 g2 g3 (by rw [hlen]; exact g4) ?_
        intro h2 L2 es2 ep2 t2 sb2 R2 pm2
        exact wpAny_pure (hQ true h2 L2 es2 ep2 t2 (sb.trans sb2) R2 (fun z => absurd z hm) fun _ => pm2.trans pm)
      rcases two with ⟨_, e2⟩ | ⟨_, e2⟩
      · exact go 31 (by rw [e2, size_20]) (.inr (.inl rfl)) (by rw [e2, size_20]; decide) (by omega)
      · exact go 127 (by rw [e2, size_76]) (.inr (.inr rfl)) (by rw [e2, size_76]; decide) (by omega)
    · first
        | refine wp_if_neg (by simp [hf]) ?_
        | (refine wpAny_bind ?_; refine wp_if_neg (by simp [hf]) ?_; refine wpAny_pure ?_)
      refine wpAny_pure (hQ true h1 L1 es1 (ep + 1) t1 sb ⟨⟨_, ho1, ⟨hex.1, hex.2.1, hex.2.2⟩, rfl⟩, hin, q3, nd1, keys1, hp1, ld1, ?_⟩ (fun z => absurd z hm) fun _ => pm)
      have h := hf
      unfold SetTable.tooFull at h
      rw [decide_eq_true_eq, q9] at h
      rw [hlen]
      omega
end
end Sx
end
section
set_option Elab.async false
set_option linter.all false
set_option autoImplicit false
set_option maxRecDepth 100000
/-! Sm: set(a list of nested tuples of numbers), sorted of it. -/
namespace Sx
open PySem PySem.W PySem.SeqAt PySem.Spec PyProof.Rows L2

/-! ### data as keys -/
mutual
def toK : PyData → NestedKey
  | .int i => .num i
  | .tuple ds => .tup (toKs ds)
  | .none => .none
  | .bool _ => .none
  | .str _ => .none
  | .list _ => .none
  | .dict _ => .none
def toKs : List PyData → List NestedKey
  | [] => []
  | d :: ds => toK d :: toKs ds
end
mutual
def treeB : PyData → Bool
  | .int _ => true
  | .tuple ds => treeAll ds
  | .none => false
  | .bool _ => false
  | .str _ => false
  | .list _ => false
  | .dict _ => false
def treeAll : List PyData → Bool
  | [] => true
  | d :: ds => treeB d && treeAll ds
end
mutual
theorem toK_inj : ∀ x y : PyData, treeB x = true → treeB y = true → toK x = toK y → x = y
  | .int i, y, _, hy, e => by
    cases y with
    | int j => rw [toK, toK] at e; injection e with e; rw [e]
    | tuple _ => rw [toK, toK] at e; cases e
    | _ => simp [treeB] at hy
  | .tuple xs, y, hx, hy, e => by
    cases y with
    | int j => rw [toK, toK] at e; cases e
    | tuple ys =>
      rw [toK, toK] at e
      rw [treeB] at hx hy
      injection e with e
      rw [toKs_inj xs ys hx hy e]
    | _ => simp [treeB] at hy
  | .none, _, hx, _, _ => by simp [treeB] at hx
  | .bool _, _, hx, _, _ => by simp [treeB] at hx
  | .str _, _, hx, _, _ => by simp [treeB] at hx
  | .list _, _, hx, _, _ => by simp [treeB] at hx
  | .dict _, _, hx, _, _ => by simp [treeB] at hx
theorem toKs_inj : ∀ xs ys : List PyData, treeAll xs = true → treeAll ys = true → toKs xs = toKs ys → xs = ys
  | [], [], _, _, _ => rfl
  | [], _ :: _, _, _, e => by rw [toKs, toKs] at e; cases e
  | _ :: _, [], _, _, e => by rw [toKs, toKs] at e; cases e
  | x :: xs, y :: ys, hx, hy, e => by
    rw [treeAll, Bool.and_eq_true] at hx hy
    rw [toKs, toKs] at e
    injection e with e1 e2
    rw [toK_inj x y hx.1 hy.1 e1, toKs_inj xs ys hx.2 hy.2 e2]
end
mutual
theorem toK_num : ∀ d : PyData, treeB d = true → numK (toK d) = true ∧ (toK d).depth = d.depth
  | .int i, _ => by simp [toK, numK, NestedKey.depth, PyData.depth]
  | .tuple ds, h => by
    rw [treeB] at h
    obtain ⟨h1, h2⟩ := toKs_num ds h
    rw [toK, numK, NestedKey.depth, PyData.depth, h1, h2]
    exact ⟨rfl, rfl⟩
  | .none, h => by simp [treeB] at h
  | .bool _, h => by simp [treeB] at h
  | .str _, h => by simp [treeB] at h
  | .list _, h => by simp [treeB] at h
  | .dict _, h => by simp [treeB] at h
theorem toKs_num : ∀ ds : List PyData, treeAll ds = true → numAll (toKs ds) = true ∧ NestedKey.depthAll (toKs ds) = PyData.depthAll ds
  | [], _ => by simp [toKs, numAll, NestedKey.depthAll, PyData.depthAll]
  | d :: ds, h => by
    rw [treeAll, Bool.and_eq_true] at h
    obtain ⟨a1, a2⟩ := toK_num d h.1
    obtain ⟨b1, b2⟩ := toKs_num ds h.2
    rw [toKs, numAll, NestedKey.depthAll, PyData.depthAll, a1, a2, b1, b2]
    exact ⟨rfl, rfl⟩
end
mutual
theorem keyIs {h : Heap} : ∀ (d : PyData) (v : Value) (as : List Addr), treeB d = true → Reads h v d as → NestedIs h (toK d) v ∧ as = []
  | .int i, _, _, _, r => by
    cases r with
    | int _ t => exact ⟨.int i t, rfl⟩
  | .tuple ds, _, _, hd, r => by
    cases r with
    | tuple h1 h2 h3 h4 =>
      rw [treeB] at hd
      obtain ⟨q1, q2⟩ := keysIs ds _ _ hd h4
      exact ⟨.tup h1 h2 h3 q1, q2⟩
  | .none, _, _, hd, _ => by simp [treeB] at hd
  | .bool _, _, _, hd, _ => by simp [treeB] at hd
  | .str _, _, _, hd, _ => by simp [treeB] at hd
  | .list _, _, _, hd, _ => by simp [treeB] at hd
  | .dict _, _, _, hd, _ => by simp [treeB] at hd
theorem keysIs {h : Heap} : ∀ (ds : List PyData) (vs : List Value) (as : List Addr), treeAll ds = true → ReadsAll h vs ds as → NestedAll h (toKs ds) vs ∧ as = []
  | [], _, _, _, r => by
    cases r
    exact ⟨.nil, rfl⟩
  | d :: ds, _, _, hd, r => by
    rw [treeAll, Bool.and_eq_true] at hd
    cases r with
    | cons r1 r2 =>
      obtain ⟨a1, rfl⟩ := keyIs d _ _ hd.1 r1
      obtain ⟨b1, rfl⟩ := keysIs ds _ _ hd.2 r2
      exact ⟨.cons a1 b1, rfl⟩
end
/-! ### the order of such data -/
theorem toks_sep {x y : PyData} (h : alike x y = true) (e : keyToks x = keyToks y) : PyData.eqv x y = true := by
  cases q : PyData.eqv x y with
  | true => rfl
  | false =>
    have z := (toks_eqv x y h).2 q
    rw [e] at z
    have z1 := z [Sum.inl 0] [Sum.inl 1]
    rw [lex_pre, lex_irrefl] at z1
    have z2 : PyProof.Rows.lexLt itemOrd [Sum.inl 0] [Sum.inl 1] = true := by
      rw [lex_one]
      rfl
    rw [z2] at z1
    cases z1
mutual
theorem tree_eqv : ∀ x y : PyData, treeB x = true → treeB y = true → PyData.eqv x y = true → x = y
  | .int i, y, _, hy, e => by
    cases y with
    | int j => simp [PyData.eqv] at e; rw [e]
    | tuple _ => simp [PyData.eqv] at e
    | _ => simp [treeB] at hy
  | .tuple xs, y, hx, hy, e => by
    cases y with
    | int j => simp [PyData.eqv] at e
    | tuple ys =>
      rw [treeB] at hx hy
      rw [PyData.eqv] at e
      rw [tree_eqvAll xs ys hx hy e]
    | _ => simp [treeB] at hy
  | .none, _, hx, _, _ => by simp [treeB] at hx
  | .bool _, _, hx, _, _ => by simp [treeB] at hx
  | .str _, _, hx, _, _ => by simp [treeB] at hx
  | .list _, _, hx, _, _ => by simp [treeB] at hx
  | .dict _, _, hx, _, _ => by simp [treeB] at hx
theorem tree_eqvAll : ∀ xs ys : List PyData, treeAll xs = true → treeAll ys = true → PyData.eqvAll xs ys = true → xs = ys
  | [], [], _, _, _ => rfl
  | [], _ :: _, _, _, e => by simp [PyData.eqvAll] at e
  | _ :: _, [], _, _, e => by simp [PyData.eqvAll] at e
  | x :: xs, y :: ys, hx, hy, e => by
    rw [treeAll, Bool.and_eq_true] at hx hy
    rw [PyData.eqvAll, Bool.and_eq_true] at e
    rw [tree_eqv x y hx.1 hy.1 e.1, tree_eqvAll xs ys hx.2 hy.2 e.2]
end
/-- sorting such data gives one list, however they came -/
theorem sort_one_list {l m : List PyData} (hp : l.Perm m) (ht : ∀ d ∈ l, treeB d = true) (hal : AllAlike l) : l.mergeSort (dataLe false id) = m.mergeSort (dataLe false id) := by
  have pl := List.mergeSort_perm l (dataLe false id)
  have pm := List.mergeSort_perm m (dataLe false id)
  refine List.Perm.eq_of_pairwise (le := fun a b => dataLe false id a b = true) (fun a b ha hb h1 h2 => ?_) (sort_pairwise (sortLe_total _ _ _) _) (sort_pairwise (sortLe_total _ _ _) _) (pl.trans (hp.trans pm.symm))
  have ma : a ∈ l := pl.mem_iff.mp ha
  have mb : b ∈ l := hp.mem_iff.mpr (pm.mem_iff.mp hb)
  have e1 : PyProof.Rows.lexLt itemOrd (keyToks b) (keyToks a) = false := by
    have z : (!PyProof.Rows.lexLt itemOrd (keyToks b) (keyToks a)) = true := h1
    simpa using z
  have e2 : PyProof.Rows.lexLt itemOrd (keyToks a) (keyToks b) = false := by
    have z : (!PyProof.Rows.lexLt itemOrd (keyToks a) (keyToks b)) = true := h2
    simpa using z
  exact tree_eqv a b (ht a ma) (ht b mb) (toks_sep (hal a ma b mb) (lex_total (O := itemOrd) _ _ e2 e1))
theorem perm_map_inv {α β : Type} {f : α → β} : ∀ {l : List β} {m : List α}, l.Perm (m.map f) → ∃ m' : List α, l = m'.map f ∧ m'.Perm m
  | [], m, h => by
    have e := h.symm.eq_nil
    have e2 : m = [] := by simpa using e
    subst e2
    exact ⟨[], rfl, List.Perm.refl _⟩
  | b :: l, m, h => by
    have hb : b ∈ m.map f := h.mem_iff.mp List.mem_cons_self
    obtain ⟨x, hx, rfl⟩ := List.mem_map.mp hb
    obtain ⟨m1, m2, rfl⟩ := List.append_of_mem hx
    have h2 : (m1 ++ x :: m2).Perm (x :: (m1 ++ m2)) := List.perm_middle
    have h3 : l.Perm ((m1 ++ m2).map f) := List.Perm.cons_inv (h.trans (h2.map f))
    obtain ⟨m', e, hp⟩ := perm_map_inv h3
    exact ⟨x :: m', by rw [e]; rfl, (hp.cons x).trans h2.symm⟩

/-! ### set(xs) -/
structure GotN (ks : List Ent) (i : Nat) (L : List Ent) : Prop where
  sub : ∀ p ∈ L, p ∈ ks.take i
  all : ∀ p ∈ ks.take i, p.2 ∈ L.map (·.2)
  few : L.length ≤ i
theorem GotN.zero (ks : List Ent) : GotN ks 0 [] := ⟨fun p h => (by cases h), fun p h => (by simp at h), Nat.le_refl _⟩
theorem GotN.next {ks L L' : List Ent} {i : Nat} {x : Ent} (g : GotN ks i L) (h : ks[i]? = some x) (c1 : x.2 ∈ L.map (·.2) → L' = L) (c2 : x.2 ∉ L.map (·.2) → L'.Perm (x :: L)) : GotN ks (i + 1) L' := by
  have tk : ks.take (i + 1) = ks.take i ++ [x] := take_next h
  rcases Classical.em (x.2 ∈ L.map (·.2)) with c | c
  · rw [c1 c]
    refine ⟨fun p hp => ?_, fun p hp => ?_, Nat.le_succ_of_le g.few⟩
    · rw [tk]
      exact List.mem_append_left _ (g.sub p hp)
    · rw [tk] at hp
      rcases List.mem_append.mp hp with z | z
      · exact g.all p z
      · rw [List.mem_singleton.mp z]
        exact c
  · have pm := c2 c
    refine ⟨fun p hp => ?_, fun p hp => ?_, by rw [pm.length_eq]; exact Nat.succ_le_succ g.few⟩
    · rw [tk]
      rcases List.mem_cons.mp (pm.mem_iff.mp hp) with e | z
      · rw [e]
        exact List.mem_append_right _ (List.mem_singleton.mpr rfl)
      · exact List.mem_append_left _ (g.sub p z)
    · rw [(pm.map (·.2)).mem_iff, List.map_cons]
      rw [tk] at hp
      rcases List.mem_append.mp hp with z | z
      · exact List.mem_cons_of_mem _ (g.all p z)
      · rw [List.mem_singleton.mp z]
        exact List.mem_cons_self
section
variable {P : Program} {w : World} {A : Around} {E : Value → Shared → Prop} {s : Shared}
theorem NSet.keep {h h' : Heap} {a : Addr} {L : List Ent} {es : Array (Int × Value)} {ep : Nat} {t : SetTable} (R : NSet w h a L es ep t) (ha : ∀ o, h.get? a = some o → h'.get? a = some o) (hk : ∀ p ∈ L, KeyAt h' p.2 p.1) : NSet w h' a L es ep t := by
  obtain ⟨o, ho, r⟩ := R.ob
  exact ⟨⟨o, ha o ho, r⟩, R.rows, R.tab, R.nd, hk, R.pl, R.ld, R.room⟩
theorem nset_fresh {h : Heap} {a : Addr} (ho : h.get? a = some { cls := .type "set", dict := none, data := .set #[] 0 (.fresh 0 0 (!w.params.followText "set-order")) }) : NSet w h a [] #[] 0 (.fresh 0 0 (!w.params.followText "set-order")) :=
  ⟨⟨_, ho, ⟨rfl, rfl, rfl⟩, rfl⟩, rfl, ⟨List.Pairwise.nil, rfl, rfl, .inl rfl, fun x hx => (by cases hx), fun i h j hi => (by simp [hashN] at hi)⟩, List.nodup_nil, fun p hp => (by cases hp), rfl, (by
    show _ ∨ (!w.params.followText "set-order") = true
    cases w.params.followText "set-order"
    · exact .inr rfl
    · exact .inl rfl), (by
    show 0 * 5 < 7 * 3
    decide)⟩
/-- the loop of set's update -/
theorem upd_keys {I : Addr} {fp wr : List Addr} {G : Array GenState → Array GenState → Prop} {n : Nat} {Pv : Nat → Value → Prop} {St : Nat → Shared → Prop} {R : Result → Shared → Prop}
    (W : WalksS P w A.in1 I fp wr G n Pv St) (S : Addr) (hSf : S ∉ fp) (ks : List Ent) (hn : n = ks.length) (hfew : ks.length ≤ 76) (hval : ∀ i v, Pv i v → ∃ p, ks[i]? = some p ∧ v = .ref p.1)
    (h0 : Heap) (hk : ∀ p ∈ ks, KeyAt h0 p.2 p.1) (hS0 : h0.get? S = none) (hw0 : ∀ b ∈ wr, h0.get? b = none) (hu : A.in1.units + 8 < cLine) :
    ∀ (k i : Nat) (s : Shared), n - i = k → i ≤ n → St i s → (∀ b o, h0.get? b = some o → s.heap.get? b = some o) → (∃ L es ep t, NSet w s.heap S L es ep t ∧ GotN ks i L) →
      (∀ s' L es ep t, Moved (S :: wr) G s s' → NSet w s'.heap S L es ep t → GotN ks n L → (∀ b o, h0.get? b = some o → s'.heap.get? b = some o) → R (.ok (.ret .none)) s') →
      codeAny (model P w) A (.builtin "set.update.loop" ⟨[.ref S, .ref I], []⟩) R s := by
  have hSw : S ∉ wr := fun h => hSf (W.sub _ h)
  have up : ∀ b ∈ wr, b ∈ S :: wr := fun b hb => List.mem_cons_of_mem _ hb
  have stays : ∀ {s s' : Shared}, Moved wr G s s' → (∀ b o, h0.get? b = some o → s.heap.get? b = some o) → ∀ b o, h0.get? b = some o → s'.heap.get? b = some o := fun hm hkp b o e =>
    hm.heap b o (fun hb => by rw [hw0 b hb] at e; cases e) (hkp b o e)
  have mine : ∀ {s : Shared} {i : Nat} {L : List Ent}, GotN ks i L → (∀ b o, h0.get? b = some o → s.heap.get? b = some o) → ∀ p ∈ L, KeyAt s.heap p.2 p.1 := fun g hkp p hp => (hk p (List.mem_of_mem_take (g.sub p hp))).keep fun b o _ _ e _ => hkp b o e
  intro k
  induction k with
  | zero =>
    intro i s hk' hi hst hkp ⟨L, es, ep, t, hS, g⟩ hR
    obtain rfl : i = n := by omega
    refine codeAny_builtin F.entry_set_update_loop ?_
    rw [Around.under_plainId F.plain_set_update_loop _]
    show wpAny _ A.in1 (pyNext (.ref I) >>= _) _ _ s
    refine wpAny_bind (W.done s _ _ hst fun s' hm => ?_)
    have hkp' := stays hm hkp
    show wpAny _ A.in1 (ret Value.none) _ _ s'
    exact wpAny_pure (hR s' L es ep t (hm.mono up) (hS.keep (fun o e => hm.heap S o hSw e) (mine g hkp')) g hkp')
  | succ k ih =>
    intro i s hk' hi hst hkp ⟨L, es, ep, t, hS, g⟩ hR
    have hlt : i < n := by omega
    refine codeAny_builtin F.entry_set_update_loop ?_
    rw [Around.under_plainId F.plain_set_update_loop _]
    show wpAny _ A.in1 (pyNext (.ref I) >>= _) _ _ s
    refine wpAny_bind (W.item i s _ _ hlt hst fun v s' hP hst' hm => ?_)
    obtain ⟨p, hp, rfl⟩ := hval i v hP
    have hkp' := stays hm hkp
    have hS' : NSet w s'.heap S L es ep t := hS.keep (fun o e => hm.heap S o hSw e) (mine g hkp')
    have hx : KeyAt s'.heap p.2 p.1 := (hk p (List.mem_of_getElem? hp)).keep fun b o _ _ e _ => hkp' b o e
    show wpAny _ A.in1 (holding [Value.ref p.1] (setAdd S (.ref p.1)) >>= _) _ _ s'
    refine wpAny_bind (wpAny_holding ?_)
    unfold setAdd
    refine wpAny_holding (wpAny_bind ((nestedKind P w).pyHash hu ⟨hx.is, hx.dp⟩ ?_))
    refine add_key (s := { s' with toks := s'.toks + p.2.draws }) hS' hx hu (by have := g.few; omega) fun b h' L' es' ep' t' hsb hS2 c1 c2 => ?_
    have g' := g.next hp c1 c2
    have hkp2 : ∀ b o, h0.get? b = some o → h'.get? b = some o := fun b o e => (hsb.2 b (fun z => by rw [z, hS0] at e; cases e)).trans (hkp' b o e)
    refine wpAny_pure ⟨plainId_quiet F.plain_set_update_loop _, ih (i + 1) _ (by omega) hlt (W.frame _ s' _ _ hst' (Nat.le_add_right _ _) fun b hb o e => ?_) hkp2 ⟨L', es', ep', t', hS2, g'⟩ fun s'' L2 es2 ep2 t2 hm2 hS3 g2 hkp3 => ?_⟩
    · rw [hsb.2 b (fun h : b = S => hSf (by rw [← h]; exact hb))]
      exact e
    · refine hR s'' L2 es2 ep2 t2 (Moved.trans W.gtrans ((hm.mono up).then_heap (Nat.le_add_right _ _) fun b o hb e => ?_) hm2) hS3 g2 hkp3
      rw [hsb.2 b (fun h : b = S => hb (by rw [h]; exact List.mem_cons_self))]
      exact e
abbrev emptySet (w : World) : Obj := { cls := .type "set", dict := none, data := .set #[] 0 (.fresh 0 0 (!w.params.followText "set-order")) }
/-- what set.__init__ leaves -/
def LeftN (w : World) (s : Shared) (ks : List Ent) (s' : Shared) : Prop := ∃ h' tk L es ep t, s' = { s with heap := h', toks := tk } ∧ NSet w h' s.heap.objs.size L es ep t ∧ GotN ks ks.length L ∧ ∀ b o, s.heap.get? b = some o → h'.get? b = some o
set_option maxHeartbeats 1600000 in
theorem init_keys {l : Addr} {items : Array Value} (ks : List Ent) (hh : A.handled = none) (hl : s.heap.IsList l items) (hit : items.toList = ks.map fun p => Value.ref p.1) (hk : ∀ p ∈ ks, KeyAt s.heap p.2 p.1) (hfew : ks.length ≤ 76) (hu : A.units + 9 < cLine)
    {Q : PySem.Fin → Shared → Prop} (hq : ∀ s', LeftN w s ks s' → Q (.done (.ret .none)) s') :
    wpAny (model P w) A (Builtin.«set.__init__» ⟨[.ref s.heap.objs.size, .ref l], []⟩) Q E { s with heap := s.heap.push (emptySet w) } := by
  have hisz : items.size = ks.length := by
    have q := congrArg List.length hit
    rwa [Array.length_toList, List.length_map] at q
  have hS : (s.heap.push (emptySet w)).get? s.heap.objs.size = some (emptySet w) := Heap.get?_push_size _ rfl
  obtain ⟨⟨lc, ldict, ldata, lslots⟩, hol, hcl, nl, hdl⟩ := hl
  simp only at hcl hdl
  subst hcl hdl
  have hol' := Heap.get?_push_of_some (emptySet w) hol
  have ca := F.sub_list_set
  have cb := F.sub_list_frozenset
  have cc : (Value.type "list" == Value.type "dict") = false := by decide
  have hl1 : (s.heap.push (emptySet w)).IsList l items := ⟨_, hol', rfl, nl, rfl⟩
  have hT : Shared.TypeIs { s with heap := s.heap.push (emptySet w) } (.ref s.heap.objs.size) "set" := ⟨_, hS, rfl⟩
  unfold Builtin.«set.__init__» noKeywords Builtin.Frozenset.updateFrom
  generalize hPI : pyIter = PI
  wp_walk
  subst hPI
  refine wpAny_pyIter_list hl1 (wpAny_bind (wpAny_runValue ?_))
  have ltl : l < s.heap.objs.size := Heap.lt_size hol
  have sz : (s.heap.push (emptySet w)).objs.size = s.heap.objs.size + 1 := Heap.size_push ..
  have ne1 : l ≠ (s.heap.push (emptySet w)).objs.size := by
    rw [sz]
    exact Nat.ne_of_lt (Nat.lt_succ_of_lt ltl)
  have out : s.heap.objs.size ∉ [(s.heap.push (emptySet w)).objs.size, l] := by
    intro z
    rcases List.mem_cons.mp z with z | z
    · rw [sz] at z
      exact absurd z (by intro z; omega)
    · exact absurd (List.mem_singleton.mp z) (Nat.ne_of_gt ltl)
  have fresh : ∀ b, s.heap.objs.size ≤ b → s.heap.get? b = none := fun b hb => by
    cases q : s.heap.get? b with
    | none => rfl
    | some o => exact absurd (Nat.lt_of_lt_of_le (Heap.lt_size q) hb) (Nat.lt_irrefl _)
  refine upd_keys ((Walks.list (by simp [hh]) _ l ne1 items).toS) s.heap.objs.size out ks hisz hfew (fun i v hv => ?_) s.heap hk (fresh _ (Nat.le_refl _)) (fun b hb => fresh b (by
      rw [List.mem_singleton.mp hb, sz]
      exact Nat.le_succ _)) (by simp only [Around.in1_units]; omega) (items.size - 0) 0 _ (by omega) (Nat.zero_le _)
    ⟨⟨_, Heap.get?_push_size _ rfl, rfl, rfl⟩, hl1.push _⟩ (fun b o e => Heap.get?_push_of_some _ (Heap.get?_push_of_some _ e)) ⟨[], #[], 0, _, nset_fresh (Heap.get?_push_of_some _ hS), GotN.zero ks⟩ fun s' L es ep t hm hS' g' hkp => ?_
  · have q : items.toList[i]? = some v := by rw [Array.getElem?_toList]; exact hv
    rw [hit, List.getElem?_map] at q
    cases hq : ks[i]? with
    | none => rw [hq] at q; cases q
    | some p =>
      rw [hq] at q
      exact ⟨p, rfl, (Option.some.inj q).symm⟩
  obtain ⟨h', g2, d', tk', os'⟩ := s'
  obtain rfl : g2 = s.gens := hm.gens
  obtain rfl : d' = s.drawn := hm.drawn
  obtain rfl : os' = s.os := hm.os
  rw [hisz] at g'
  refine (wpAny_pure ?_ : wpAny (model P w) A (pure ()) (fun _ s' => wpAny (model P w) A (ret Value.none) Q E s') E _)
  exact wpAny_pure (hq _ ⟨h', tk', L, es, ep, t, rfl, hS', g', hkp⟩)
set_option maxHeartbeats 1600000 in
theorem set_keys {l : Addr} {items : Array Value} (ks : List Ent) {Q : Value → Shared → Prop} (hh : A.handled = none) (hl : s.heap.IsList l items) (hit : items.toList = ks.map fun p => Value.ref p.1) (hk : ∀ p ∈ ks, KeyAt s.heap p.2 p.1) (hfew : ks.length ≤ 76) (hu : A.units + 20 < cLine)
    (h : ∀ s', LeftN w s ks s' → Q (.ref s.heap.objs.size) s') : wpAny (model P w) A (call (.type "set") [.ref l]) Q E s := by
  have a1 := F.called_set.notType
  have a2 := F.called_set.canCreate
  have a3 := F.typeCall_set_1 (.ref l)
  have a4 := F.called_set.made
  have a5 := F.called_set.sub
  obtain ⟨mc, mt, a6⟩ := F.called_set.mro
  refine wpAny_call (codeAny_of_tree (?_ : wpAny _ _ (callAny (.type "set") _) _ _ _))
  refine wpAny_pure ⟨Code.quiet_builtin _ (by decide +kernel), codeAny_builtin F.entry_type_call ?_⟩
  rw [Around.under_plain (weight_type_call_type "set" [.ref l] []) rfl]
  repeat (any_goals (first | assumption | wp_step))
  refine codeAny_mono (code_set_led1 (.ref l) (E := E) (Q₁ := fun v s₁ => v = .ref s.heap.objs.size ∧ s₁ = { s with heap := s.heap.push (emptySet w) }) ⟨rfl, rfl⟩) fun r s₁ hr => ?_
  cases r with
  | error e => exact hr
  | ok fl => cases fl with
    | ret v =>
      obtain ⟨rfl, rfl⟩ := hr
      have hT : Shared.TypeIs { s with heap := s.heap.push (emptySet w) } (.ref s.heap.objs.size) "set" := ⟨_, Heap.get?_push_size _ rfl, rfl⟩
      have b1 := F.called_set.init.lookup
      have b2 := F.called_set.init.bind (.ref s.heap.objs.size)
      repeat (any_goals (first | assumption | wp_step))
      refine codeAny_mono (codeAny_call_builtin (R := wants (fun r s₂ => r = .none ∧ LeftN w s ks s₂) E) F.called_set.init.plain F.entry_set_init (check_set_init_1 hT ?_)) fun r2 s2 hr2 => ?_
      · exact init_keys ks (by first | exact hh | simp [hh]) hl hit hk hfew (by simp only [Around.in1_units]; omega) fun s' left => ⟨rfl, left⟩
      · cases r2 with
        | error e => exact hr2
        | ok fl2 => cases fl2 with
          | ret r =>
            obtain ⟨rfl, left⟩ := hr2
            repeat (any_goals (first | assumption | wp_step))
            exact h _ left
          | _ => exact hr2.elim
    | _ => exact hr.elim

/-! ### sorted(a set) -/
/-- l.sort(), no item reads off the list itself -/
theorem sort_x {β : Type} {vs : List Value} {bs : List β} {enc : β → PyData} {R : Value → β → Prop} {a : Addr} {n : Nat} {Q : Value → Shared → Prop} (ho : s.heap.get? a = some (seqObj "list" vs.toArray n)) (e : EachIs R vs bs) (er : EachIs (fun v b => ∃ as, Reads s.heap v (enc b) as ∧ a ∉ as) vs bs) (hal : AllAlike (bs.map enc)) (hk : SortableX (bs.map enc)) (hL : bs.length ≤ sizeLine)
    (hu : ∀ b, b ∈ bs → A.units + 1 + (enc b).depth < cLine) (h : ∀ out, out.length = bs.length → EachIs R out (bs.mergeSort (dataLe false enc)) → Q .none { s with heap := sortedHeap s.heap a vs (List.toArray out) }) :
    wpAny (model P w) A (call (.builtin "list.sort") [.ref a]) Q E s := by
  have er2 : EachIs (fun v b => ∃ as, Reads (sortingHeap s.heap a vs) v (enc b) as) vs bs := each_keepBut (h' := sortingHeap s.heap a vs) (fun _ _ hb q => sortingHeap_old hb q) (fun o q => by rw [ho] at q; rw [← Option.some.inj q]) hal er
  refine wpAny_call_entry slot_list_sort ⟨_, ho, rfl⟩ entry_list_sort (list_sort_vals (κ := dataKind (sortingHeap s.heap a vs) (bs.map enc)) ho (sortsAt (s := { s with heap := sortingHeap s.heap a vs }) (each_map (R := fun v d => ∃ as, Reads (sortingHeap s.heap a vs) v d as) enc er2) hal hk (bound_map hu)) (by rw [e.length]; exact hL) ⟨.none, rfl, ?_⟩) (args_list_sort _)
  exact h _ (by rw [sortVals_length false rfl]; exact e.length) (sortVals_data false e er2 hal)
theorem each_ref {f : Addr → Value} {T : Value → (Addr × PyData) → Prop} : ∀ (l : List (Addr × PyData)), (∀ p ∈ l, T (f p.1) p) → EachIs T (l.map fun p => f p.1) l
  | [], _ => .nil
  | p :: l, h => .cons (h p List.mem_cons_self) (each_ref l fun q hq => h q (List.mem_cons_of_mem _ hq))
theorem of_each_ref {out : List Value} {l : List (Addr × PyData)} (h : EachIs (fun u p => u = Value.ref p.1) out l) : out = l.map fun p => Value.ref p.1 := by
  induction h with
  | nil => rfl
  | cons h1 _ ih => rw [h1, ih]; rfl
abbrev encE (L : List (Addr × PyData)) : List Ent := L.map fun p => (p.1, toK p.2)
/-- data of which sets are made -/
def okT (d : PyData) : Prop := treeB d = true ∧ d.depth ≤ 8 ∧ ∃ xs, d = .tuple xs
theorem sorted_set {a : Addr} {LD : List (Addr × PyData)} {es : Array (Int × Value)} {ep : Nat} {t : SetTable} {Q : Value → Shared → Prop} (R : NSet w s.heap a (encE LD) es ep t) (hh : A.handled = none) (hu : A.units + 20 < cLine) (hd : ∀ p ∈ LD, okT p.2 ∧ ∃ as, Reads s.heap (.ref p.1) p.2 as)
    (hal : AllAlike (LD.map (·.2)))
    (hQ : ∀ s' p (c : Nat) (L' : List (Addr × PyData)), (∀ b o, s.heap.get? b = some o → s'.heap.get? b = some o) → s'.gens = s.gens → s'.os = s.os → s.heap.objs.size ≤ p → s'.heap.get? p = some (seqObj "list" (L'.map fun q => Value.ref q.1).toArray c) →
      L'.Perm LD → L'.map (·.2) = (LD.map (·.2)).mergeSort (dataLe false id) → Q (.ref p) s') :
    wpAny (model P w) A (call (.builtin "sorted") [.ref a]) Q E s := by
  obtain ⟨o, ho, hex, hdt⟩ := R.ob
  have hsz := R.size
  rw [List.length_map] at hsz
  have hroom := R.room
  have hm127 : t.mask ≤ 127 := by rcases R.tab.mok with e | e | e <;> omega
  rw [List.length_map] at hroom
  refine Calls.call_function_entry kind_sorted plain_sorted entry_sorted (args_sorted1 _) ?_
  unfold Builtin.«sorted»
  refine wpAny_bind (m := checkCount "sorted" 1 1 _) (wpAny_pure ?_)
  refine wpAny_bind (collect_set (A := A.in1) hh ⟨o, ho, hex.1, hdt⟩ R.fits (by unfold scanBound; omega) R.tab.ris R.ld fun s1 vs k1 hz g1 o1 pm => ?_)
  have hes : es.toList.map (·.2) = LD.map fun q => Value.ref q.1 := by
    rw [R.rows, rowsN, List.map_map, List.map_map]
    rfl
  rw [hes] at pm
  obtain ⟨L1, rfl, p1⟩ := perm_map_inv pm
  have hl1 : L1.length = LD.length := p1.length_eq
  refine wpAny_bind (wpAny_newList ?_ (by rw [List.length_map, sizeLine_eq]; omega))
  have hoL : (s1.heap.push (seqObj "list" (L1.map fun q => Value.ref q.1).toArray 0)).get? s1.heap.objs.size = some (seqObj "list" (L1.map fun q => Value.ref q.1).toArray 0) := Heap.get?_push_size _ rfl
  have okL : ∀ p ∈ L1, okT p.2 ∧ ∃ as, Reads s.heap (.ref p.1) p.2 as := fun p hp => hd p (p1.mem_iff.mp hp)
  have er : EachIs (fun v (p : Addr × PyData) => ∃ as, Reads (s1.heap.push (seqObj "list" (L1.map fun q => Value.ref q.1).toArray 0)) v p.2 as ∧ s1.heap.objs.size ∉ as) (L1.map fun q => Value.ref q.1) L1 := each_ref L1 fun p hp => by
    obtain ⟨⟨h1, h2, h3⟩, as, r⟩ := okL p hp
    obtain ⟨_, rfl⟩ := keyIs _ _ _ h1 r
    exact ⟨[], PyProof.Rows.Reads.keeps (fun b u e => Heap.get?_push_of_some _ (k1 b u e)) r, by simp⟩
  have al1 : AllAlike (L1.map (·.2)) := fun d hd' e he => hal d ((p1.map (·.2)).mem_iff.mp hd') e ((p1.map (·.2)).mem_iff.mp he)
  refine wpAny_bind (wpAny_holding (sort_x (s := { s1 with heap := s1.heap.push (seqObj "list" (L1.map fun q => Value.ref q.1).toArray 0) }) (R := fun u (p : Addr × PyData) => u = Value.ref p.1) (enc := fun p => p.2) hoL (each_ref L1 fun p _ => rfl) er al1
    (.inl fun d hd' => by
      obtain ⟨p, hp, rfl⟩ := List.mem_map.mp hd'
      exact (okL p hp).1.2.2) (by rw [sizeLine_eq]; omega) (fun p hp => by have := (okL p hp).1.2.1; simp only [Around.in1_units]; omega) fun out hol ho' => ?_))
  have eo := of_each_ref ho'
  subst eo
  obtain ⟨c, hc⟩ := sortedHeap_at (vs := L1.map fun q => Value.ref q.1) (out := ((L1.mergeSort (dataLe false fun p => p.2)).map fun p => Value.ref p.1).toArray) hoL
  have em : (L1.mergeSort (dataLe false fun p => p.2)).map (·.2) = (LD.map (·.2)).mergeSort (dataLe false id) := by
    have e1 : (L1.mergeSort (dataLe false fun p => p.2)).map (·.2) = (L1.map (·.2)).mergeSort (dataLe false id) := List.map_mergeSort (fun a _ b _ => rfl)
    rw [e1]
    exact sort_one_list (p1.map (·.2)) (fun d hd' => by
      obtain ⟨p, hp, rfl⟩ := List.mem_map.mp hd'
      exact (okL p hp).1.1) al1
  refine wpAny_pure ⟨_, rfl, hQ _ s1.heap.objs.size c _ (fun b u e => ?_) g1 o1 hz hc ((List.mergeSort_perm _ _).trans p1) em⟩
  have q := k1 b u e
  have hlt := Heap.lt_size q
  show (sortedHeap (s1.heap.push (seqObj "list" (L1.map fun q => Value.ref q.1).toArray 0)) s1.heap.objs.size _ _).get? b = some u
  rw [sortedHeap_old (Nat.ne_of_lt hlt) (by rw [size_push']; exact Nat.lt_succ_of_lt hlt)]
  exact Heap.get?_push_of_some _ q
end
end Sx
end
section
set_option Elab.async false
set_option linter.all false
set_option autoImplicit false
set_option maxRecDepth 100000
/-! Dn13: sets of what stands in a list or a tuple: numbers, or nested tuples of numbers; ranges as tuples. -/
namespace Dn
open PySem PySem.Spec PyProof.Rows L2 LamX

/-! ### tuple(range(..)), list(range(.., ..)) -/
section
variable {Tb : List (Addr × Str)} {B : Wd → V → (List PyData → T PyData) → Prop} {X : Cx}
theorem pd_tupleRg {a : Expr} {f : Env → T PyData} {p pr pos posr : Pos} (hc : X.calm = true) (hg : Gl X "tuple") (hm : X.mg "tuple" = none) (hgr : Gl X "range") (hmr : X.mg "range" = none) (ha : PB Tb B X a f)
    (na : starEach [.Call (.Name "range" pr) [a] [] posr] X.env = (false, eval (.Call (.Name "range" pr) [a] [] posr) X.env) :: starEach [] X.env := by rfl) (nr : starEach [a] X.env = (false, eval a X.env) :: starEach [] X.env := by rfl) :
    PD Tb B X (.Call (.Name "tuple" p) [.Call (.Name "range" pr) [a] [] posr] [] pos) fun ρ => (f ρ).bind (rgD fun ds => .sh (.tuple ds)) := by
  refine PE.weaken (pe_tupRg hc hg hm (prg_1 hgr hmr ha nr) na) fun σ H Q ⟨W, F, ρ, s, q⟩ => ⟨W, F, ρ, s, (Hold.bind q).mono fun d z W1 H1 v e1 s1 r1 => ?_⟩
  cases d with
  | int j =>
    obtain ⟨hz, z⟩ := hold_if z
    refine ⟨j, (r1 W1 F H1 (Ext.refl _) s1).int, RgOk.of_le' hz, ?_⟩
    have hd : DpAll X.K W1.Φ (rgV 0 j) (upFrom 0 j.toNat) := by
      have := rg_data (K := X.K) (H := W1.Φ) 0 j
      rwa [show (j - 0).toNat = j.toNat by rw [Int.sub_zero]] at this
    have hl : (rgV 0 j).length ≤ sizeLine := by
      rw [rgV_length]
      have h1 : (100000 : Nat) ≤ sizeLine := by decide
      omega
    exact s1.mkT hd hl (RPost.ext e1 z)
  | _ => exact z.elim
end

/-! ### nested tuples, each once -/
open Sx in
def tupB (d : PyData) : Bool := isTup d && (treeB d && decide (d.depth ≤ 8))
def tupsB (ds : List PyData) : Bool := (ds.all tupB && alikeB ds) && decide (ds.length ≤ 76)
def nubD (ds : List PyData) : List PyData := ds.foldl (fun l k => if l.any (PyData.eqv k) = true then l else l ++ [k]) []
theorem tupB_ok {d : PyData} (h : tupB d = true) : Sx.okT d := by
  unfold tupB at h
  obtain ⟨h1, h2⟩ := and2 h
  obtain ⟨h3, h4⟩ := and2 h2
  refine ⟨h3, of_decide_eq_true h4, ?_⟩
  unfold isTup at h1
  split at h1
  · exact ⟨_, rfl⟩
  · cases h1
theorem tree_refl {d : PyData} (h : Sx.treeB d = true) (e : PyData) (he : Sx.treeB e = true) : PyData.eqv d e = true ↔ d = e := by
  refine ⟨Sx.tree_eqv d e h he, ?_⟩
  rintro rfl
  have key : ∀ d : PyData, Sx.treeB d = true → PySem.W.alike d d = true := by
    intro d
    exact (PyData.rec (motive_1 := fun d => Sx.treeB d = true → PySem.W.alike d d = true) (motive_2 := fun ds => Sx.treeAll ds = true → PySem.W.alikeAll ds ds = true) (motive_3 := fun _ => True) (motive_4 := fun _ => True)
      (fun z => by simp [Sx.treeB] at z) (fun _ z => by simp [Sx.treeB] at z) (fun _ _ => by simp [PySem.W.alike]) (fun _ z => by simp [Sx.treeB] at z) (fun _ _ z => by simp [Sx.treeB] at z)
      (fun ds ih z => by rw [Sx.treeB] at z; rw [PySem.W.alike]; exact ih z) (fun _ _ z => by simp [Sx.treeB] at z) (fun _ => by simp [PySem.W.alikeAll])
      (fun d ds h1 h2 z => by rw [Sx.treeAll, Bool.and_eq_true] at z; rw [PySem.W.alikeAll, h1 z.1, h2 z.2]; rfl) trivial (fun _ _ _ _ => trivial) (fun _ _ _ _ => trivial) d)
  exact PySem.W.eqv_refl_alike d (key d h)
theorem nubD_go (ds : List PyData) (ht : ∀ d ∈ ds, Sx.treeB d = true) : ∀ l : List PyData, (∀ d ∈ l, Sx.treeB d = true) → l.Nodup → (ds.foldl (fun l k => if l.any (PyData.eqv k) = true then l else l ++ [k]) l).Nodup ∧ ∀ x, x ∈ ds.foldl (fun l k => if l.any (PyData.eqv k) = true then l else l ++ [k]) l ↔ x ∈ l ∨ x ∈ ds := by
  induction ds with
  | nil => exact fun l _ h => ⟨h, fun j => by simp⟩
  | cons k ns ih =>
    intro l hl h
    have hk0 := ht k List.mem_cons_self
    have ih := ih fun d hd => ht d (List.mem_cons_of_mem _ hd)
    have iff : l.any (PyData.eqv k) = true ↔ k ∈ l := by
      rw [List.any_eq_true]
      constructor
      · rintro ⟨x, hx, e⟩
        rw [(tree_refl hk0 x (hl x hx)).mp e]
        exact hx
      · exact fun hm => ⟨k, hm, (tree_refl hk0 k hk0).mpr rfl⟩
    rw [List.foldl_cons]
    by_cases hk : l.any (PyData.eqv k) = true
    · rw [if_pos hk]
      refine ⟨(ih l hl h).1, fun j => ?_⟩
      rw [(ih l hl h).2 j, List.mem_cons]
      constructor
      · rintro (q | q)
        · exact .inl q
        · exact .inr (.inr q)
      · rintro (q | q | q)
        · exact .inl q
        · exact .inl (q ▸ iff.mp hk)
        · exact .inr q
    · rw [if_neg hk]
      have hm : k ∉ l := fun z => hk (iff.mpr z)
      have h2 : (l ++ [k]).Nodup := List.nodup_append.mpr ⟨h, by simp, fun a ha b hb => by
        rw [List.mem_singleton] at hb
        subst hb
        exact fun e => hm (e ▸ ha)⟩
      have hl2 : ∀ d ∈ l ++ [k], Sx.treeB d = true := fun d hd => by
        rcases List.mem_append.mp hd with hd | hd
        · exact hl d hd
        · rw [List.mem_singleton.mp hd]
          exact hk0
      refine ⟨(ih _ hl2 h2).1, fun j => ?_⟩
      rw [(ih _ hl2 h2).2 j, List.mem_append, List.mem_singleton, List.mem_cons, or_assoc]
theorem nubD_nodup {ds : List PyData} (ht : ∀ d ∈ ds, Sx.treeB d = true) : (nubD ds).Nodup := (nubD_go ds ht [] (fun d hd => by cases hd) List.nodup_nil).1
theorem mem_nubD {ds : List PyData} (ht : ∀ d ∈ ds, Sx.treeB d = true) {x : PyData} : x ∈ nubD ds ↔ x ∈ ds := by
  have q := (nubD_go ds ht [] (fun d hd => by cases hd) List.nodup_nil).2 x
  rw [List.mem_nil_iff, false_or] at q
  exact q
theorem nubD_len {ds : List PyData} (ht : ∀ d ∈ ds, Sx.treeB d = true) : (nubD ds).length ≤ ds.length := nodup_len (nubD_nodup ht) fun x hx => (mem_nubD ht).mp hx
where nodup_len {α : Type} : ∀ {l m : List α}, l.Nodup → (∀ x ∈ l, x ∈ m) → l.length ≤ m.length
  | [], m, _, _ => Nat.zero_le _
  | x :: l, m, hn, hs => by
    obtain ⟨h1, h2⟩ := List.nodup_cons.mp hn
    obtain ⟨a, b, rfl⟩ := List.append_of_mem (hs x List.mem_cons_self)
    have ih := nodup_len (l := l) (m := a ++ b) h2 fun y hy => by
      have hy2 := hs y (List.mem_cons_of_mem _ hy)
      rcases List.mem_append.mp hy2 with z | z
      · exact List.mem_append_left _ z
      · rcases List.mem_cons.mp z with z | z
        · exact absurd (z ▸ hy) h1
        · exact List.mem_append_right _ z
    rw [List.length_cons, List.length_append, List.length_cons]
    rw [List.length_append] at ih
    omega
/-! ### the object -/
def NSet0 (w : World) (h : Heap) (a : Addr) (L : List Sx.Ent) : Prop := ∃ (es : Array (Int × Value)) (ep : Nat) (t : SetTable), (∃ o, h.get? a = some o ∧ o.ExactSet ∧ o.data = .set es ep t) ∧ es.toList = Sx.rowsN w L ∧ TabOk t (Sx.hashN w L) ∧ (L.map (·.2)).Nodup ∧ t.plain = true ∧
  (w.params.followText "set-order" = true ∨ t.led = true) ∧ L.length * 5 < t.mask * 3
def SetNO (w : World) (a : Addr) (L : List Sx.Ent) : HO := .ext fun h => NSet0 w h a L
theorem setNO_new {P : Program} {w : World} {H : Hp} {h : Heap} {a : Addr} {L : List Sx.Ent} (R : NSet0 w h a L) : ObjOk P w H h a (SetNO w a L) := by
  have ⟨es, ep, t, ⟨o, ho, r⟩, q⟩ := R
  refine ⟨R, ⟨o, ho⟩, fun h1 h2 p k => ?_⟩
  obtain ⟨es', ep', t', ⟨o', ho', r'⟩, q'⟩ := p
  exact ⟨es', ep', t', ⟨o', k o' ho', r'⟩, q'⟩
theorem NSet0.full {w : World} {h : Heap} {a : Addr} {L : List Sx.Ent} (R : NSet0 w h a L) (hk : ∀ p ∈ L, Sx.KeyAt h p.2 p.1) : ∃ es ep t, Sx.NSet w h a L es ep t := by
  obtain ⟨es, ep, t, h1, h2, h3, h4, h5, h6, h7⟩ := R
  exact ⟨es, ep, t, h1, h2, h3, h4, hk, h5, h6, h7⟩
theorem nset0 {w : World} {h : Heap} {a : Addr} {L : List Sx.Ent} {es : Array (Int × Value)} {ep : Nat} {t : SetTable} (R : Sx.NSet w h a L es ep t) : NSet0 w h a L := ⟨es, ep, t, R.ob, R.rows, R.tab, R.nd, R.pl, R.ld, R.room⟩
theorem dp_refs {K : PySem.W.Frag} {H : Hp} : ∀ {vs : List V} {ds : List PyData}, DpAll K H vs ds → (∀ d ∈ ds, ∃ xs, d = PyData.tuple xs) → ∃ ks : List (Addr × PyData), vs = ks.map (fun p => V.ref p.1) ∧ ds = ks.map (·.2) ∧ ∀ p ∈ ks, Dp K H (.ref p.1) p.2
  | _, [], h, _ => by
    cases h
    exact ⟨[], rfl, rfl, fun p hp => by cases hp⟩
  | _, d :: ds, h, ht => by
    cases h with
    | cons h1 h2 =>
      obtain ⟨ks, rfl, rfl, hk⟩ := dp_refs h2 fun d hd => ht d (List.mem_cons_of_mem _ hd)
      obtain ⟨xs, rfl⟩ := ht d List.mem_cons_self
      cases h1 with
      | @tup a ys _ q1 q2 =>
        exact ⟨(a, .tuple xs) :: ks, rfl, rfl, fun p hp => by
          rcases List.mem_cons.mp hp with rfl | hp
          · exact .tup q1 q2
          · exact hk p hp⟩
theorem refs_us : ∀ {ks : List (Addr × PyData)} {us : List Value}, Vals (ks.map fun p => V.ref p.1) us → us = ks.map fun p => Value.ref p.1
  | [], _, .nil => rfl
  | p :: ks, _, .cons r t => by
    cases r
    rw [refs_us t]
    rfl
theorem us_refs : ∀ (ks : List (Addr × PyData)), Vals (ks.map fun p => V.ref p.1) (ks.map fun p => Value.ref p.1)
  | [] => .nil
  | p :: ks => .cons rfl (us_refs ks)
theorem enc_of {ks : List (Addr × PyData)} : ∀ L : List Sx.Ent, (∀ p ∈ L, p ∈ Sx.encE ks) → ∃ LD, L = Sx.encE LD ∧ ∀ q ∈ LD, q ∈ ks
  | [], _ => ⟨[], rfl, fun q hq => by cases hq⟩
  | p :: L, h => by
    obtain ⟨LD, rfl, h2⟩ := enc_of L fun q hq => h q (List.mem_cons_of_mem _ hq)
    obtain ⟨q, hq, rfl⟩ := List.mem_map.mp (h p List.mem_cons_self)
    exact ⟨q :: LD, rfl, fun r hr => by
      rcases List.mem_cons.mp hr with rfl | hr
      · exact hq
      · exact h2 r hr⟩
section
variable {X : Cx}
theorem key_of {pins : List (Addr × Obj)} {σ : L2.St} {H : Hp} {s : Shared} (I : Inv X pins σ H s) {a : Addr} {d : PyData} (h : Dp X.K H (.ref a) d) (ok : Sx.okT d) : Sx.KeyAt s.heap (Sx.toK d) a ∧ ∃ as, Reads s.heap (.ref a) d as := by
  obtain ⟨as, r⟩ := Dp.reads I d (.ref a) (.ref a) h rfl
  obtain ⟨k, rfl⟩ := Sx.keyIs d _ _ ok.1 r
  obtain ⟨n1, n2⟩ := Sx.toK_num d ok.1
  exact ⟨⟨k, by rw [n2]; exact ok.2.1, n1⟩, _, r⟩
/-- set(xs) of a list of tuples -/
def rSetN (K : PySem.W.Frag) (w : World) : List V → Hp → VK → Prop := fun vs H Q => ∃ (l : Addr) (ks : List (Addr × PyData)), vs = [.ref l] ∧ SqL K H l (ks.map fun p => V.ref p.1) ∧ (∀ p ∈ ks, Dp K H (.ref p.1) p.2 ∧ Sx.okT p.2) ∧ ks.length ≤ 76 ∧
  ∀ p (LD : List (Addr × PyData)), H p = none → (∀ q ∈ LD, q ∈ ks) → (LD.map (·.2)).Perm (nubD (ks.map (·.2))) → Q (.ref p) (upd H p (SetNO w p (Sx.encE LD)))
theorem cr_setN (hc : X.calm = true) (hu : X.A.units + 64 < cLine) : CallR X (.type "set") (rSetN X.K X.w) := by
  intro pins s σ H xs us Q I r h
  obtain ⟨l, ks, rfl, hl, hk, hf, q⟩ := h
  rw [Vals.ref1 r]
  obtain ⟨its, rv, pl, hz⟩ := I.list hl
  have hn : H s.heap.objs.size = none := I.hok.fresh (Nat.le_refl _)
  have hit : its.toArray.toList = (Sx.encE ks).map fun p => Value.ref p.1 := by
    rw [List.map_map, List.toList_toArray]
    exact refs_us rv
  refine Sx.set_keys (P := X.prog) (w := X.w) (Sx.encE ks) (I.ok.hd hc) pl.isList hit (fun p hp => ?_) (by rw [List.length_map]; exact hf) (by omega) fun s' ⟨h', tk, L, es, ep, t, e, R, g, k⟩ => ?_
  · obtain ⟨r, hr, rfl⟩ := List.mem_map.mp hp
    exact (key_of I (hk r hr).1 (hk r hr).2).1
  subst e
  rw [List.length_map] at g
  have sub : ∀ p ∈ L, p ∈ Sx.encE ks := fun p hp => List.mem_of_mem_take (g.sub p hp)
  obtain ⟨LD, rfl, hLD⟩ := enc_of L sub
  have tr : ∀ d ∈ ks.map (·.2), Sx.treeB d = true := fun d hd => by
    obtain ⟨p, hp, rfl⟩ := List.mem_map.mp hd
    exact (hk p hp).2.1
  have nd : (LD.map (·.2)).Nodup := by
    have z := R.nd
    rw [List.map_map] at z
    have z2 : ((LD.map (·.2)).map Sx.toK).Nodup := by rw [List.map_map]; exact z
    exact L2.nodup_of_map z2
  have pm : (LD.map (·.2)).Perm (nubD (ks.map (·.2))) := by
    refine (List.perm_ext_iff_of_nodup nd (nubD_nodup tr)).mpr fun d => ?_
    rw [mem_nubD tr]
    constructor
    · intro hd
      obtain ⟨p, hp, rfl⟩ := List.mem_map.mp hd
      exact List.mem_map.mpr ⟨p, hLD p hp, rfl⟩
    · intro hd
      obtain ⟨p, hp, rfl⟩ := List.mem_map.mp hd
      have z := g.all (p.1, Sx.toK p.2) (by rw [List.take_of_length_le (by simp)]; exact List.mem_map.mpr ⟨p, hp, rfl⟩)
      rw [List.map_map] at z
      obtain ⟨p2, hp2, e⟩ := List.mem_map.mp z
      have e2 : p2.2 = p.2 := Sx.toK_inj _ _ (hk p2 (hLD p2 hp2)).2.1 (hk p hp).2.1 e
      rw [← e2]
      exact List.mem_map.mpr ⟨p2, hp2, rfl⟩
  exact ⟨.ref _, _, I.laid (t' := tk) k (Nat.le_refl _) (setNO_new (nset0 R)), rfl, q _ LD hn hLD pm⟩
/-- sorted(a set), len(a set) -/
def rSortedN (K : PySem.W.Frag) (w : World) : List V → Hp → VK → Prop := fun vs H Q => ∃ (a : Addr) (LD : List (Addr × PyData)), vs = [.ref a] ∧ H a = some (SetNO w a (Sx.encE LD)) ∧ (∀ p ∈ LD, Dp K H (.ref p.1) p.2 ∧ Sx.okT p.2) ∧ PySem.W.AllAlike (LD.map (·.2)) ∧ LD.length ≤ 76 ∧
  ∀ p (L' : List (Addr × PyData)), H p = none → L'.Perm LD → L'.map (·.2) = sortOf (LD.map (·.2)) → Q (.ref p) (upd H p (.lst (L'.map fun q => V.ref q.1)))
theorem cr_sortedN (hc : X.calm = true) (hu : X.A.units + 64 < cLine) : CallR X (.builtin "sorted") (rSortedN X.K X.w) := by
  intro pins s σ H vs us Q I r h
  obtain ⟨a, LD, rfl, ha, hk, hal, hf, q⟩ := h
  have R0 : NSet0 X.w s.heap a (Sx.encE LD) := (I.hok a _ ha).1
  obtain ⟨es, ep, t, R⟩ := R0.full fun p hp => by
    obtain ⟨r, hr, rfl⟩ := List.mem_map.mp hp
    exact (key_of I (hk r hr).1 (hk r hr).2).1
  rw [Vals.ref1 r]
  refine Sx.sorted_set (P := X.prog) R (I.ok.hd hc) (by omega) (fun p hp => ⟨(hk p hp).2, (key_of I (hk p hp).1 (hk p hp).2).2⟩) hal fun s' p c L' k g o hp hg pm em => ?_
  have hlen : (L'.map fun q => V.ref q.1).length ≤ sizeLine := by rw [List.length_map, pm.length_eq, sizeLine_eq]; omega
  have hn : H p = none := I.hok.fresh hp
  have J : Inv X pins σ (upd H p (.lst (L'.map fun q => V.ref q.1))) { s with heap := s'.heap, gens := s'.gens, drawn := s'.drawn, toks := s'.toks } :=
    I.call (ch := []) (Un.laid k hp hn) (I.hok.laid k hp ⟨hlen, _, c, us_refs L', hg⟩) (by rw [g]; exact I.bare) (fun _ z => nomatch z)
  have e : s' = { s with heap := s'.heap, gens := s'.gens, drawn := s'.drawn, toks := s'.toks } := by
    cases s'
    cases s
    cases o
    rfl
  rw [e]
  exact ⟨.ref p, _, J, rfl, q p L' hn pm em⟩
def rLenN (w : World) : List V → Hp → VK → Prop := fun vs H Q => ∃ (a : Addr) (L : List Sx.Ent), vs = [.ref a] ∧ H a = some (SetNO w a L) ∧ L.length ≤ 1000 ∧ Q (.int (L.length : Nat)) H
theorem cr_lenN : CallR X (.builtin "len") (rLenN X.w) := by
  intro pins s σ H vs us Q I r h
  obtain ⟨a, L, rfl, ha, hn, q⟩ := h
  have R0 : NSet0 X.w s.heap a L := (I.hok a _ ha).1
  rw [Vals.ref1 r]
  obtain ⟨es, ep, t, ⟨o, ho, hex, hd⟩, hrow, htab, _, _, _, hroom⟩ := R0
  have hsz := Sx.rowsN_len hrow
  have hf : t.fits es.size = true := by
    have h1 := htab.sz
    rw [Sx.hashN_len] at h1
    unfold SetTable.fits SetTable.fill
    rw [htab.dm, Bool.and_eq_true, beq_iff_eq, decide_eq_true_eq]
    show t.place.size = es.size ∧ t.place.size + 0 ≤ t.mask
    omega
  exact call_len_set ho hex hd hf (by rw [hsz]; omega) ⟨.int L.length, H, I.tok _, ⟨_, by rw [hsz]⟩, q⟩
/-- set(t) of a tuple of numbers -/
def rSetIT (K : PySem.W.Frag) (w : World) : List V → Hp → VK → Prop := fun vs H Q => ∃ (l : Addr) (ns : List Int), vs = [.ref l] ∧ SqT K H l (ns.map V.int) ∧ ns.length ≤ 1000 ∧ ∀ p, H p = none → Q (.ref p) (upd H p (SetO w p (fun j => decide (j ∈ ns)) (nub ns).length))
theorem cr_setIT (hc : X.calm = true) : CallR X (.type "set") (rSetIT X.K X.w) := by
  intro pins s σ H vs us Q I r h
  obtain ⟨l, ns, rfl, hs, hl, q⟩ := h
  obtain ⟨its, rv, pl, hz⟩ := I.tuple hs
  rw [Vals.ref1 r]
  refine call_set_tupI ns (I.ok.hd hc) pl (by simpa using ints_of_vals rv) (by unfold scanBound; omega) fun h' tk c R hcn k => ?_
  have ec := SetR.count R
  subst ec
  have hn : H s.heap.objs.size = none := I.hok.fresh (Nat.le_refl _)
  exact ⟨.ref _, _, Inv.laid (t' := tk) I k (Nat.le_refl _) (setO_new R), rfl, q _ hn⟩
def rSetX (K : PySem.W.Frag) (w : World) : List V → Hp → VK → Prop := fun vs H Q => (rSetI K w vs H Q ∨ rSetIT K w vs H Q) ∨ rSetN K w vs H Q
theorem cr_setX (hc : X.calm = true) (hu : X.A.units + 64 < cLine) : CallR X (.type "set") (rSetX X.K X.w) := by
  intro pins s σ H vs us Q I r h
  rcases h with (h | h) | h
  · exact cr_setI hc pins s σ H vs us Q I r h
  · exact cr_setIT hc pins s σ H vs us Q I r h
  · exact cr_setN hc hu pins s σ H vs us Q I r h
end
section
variable {Tb : List (Addr × Str)} {B : Wd → V → (List PyData → T PyData) → Prop} {X : Cx}
/-- f(set(e)) -/
def setX (g : List Int → T AV) (k : List PyData → T AV) : PyData → T AV
  | .list ds => match intsOf ds with
    | some ns => if ns.length ≤ 1000 then g ns else .err
    | none => if tupsB ds = true then k ds else .err
  | .tuple ds => match intsOf ds with
    | some ns => if ns.length ≤ 1000 then g ns else .err
    | none => .err
  | _ => .err
theorem setX_read {K : PySem.W.Frag} {w : World} {W : Wd} {F H : Hp} {ρ : Env} {σ : L2.St} {Q : VK} {v : V} {d : PyData} {g : List Int → T AV} {k : List PyData → T AV} (s : Sim K Tb B W F ρ σ H) (a : Rb K W H v d) (q : Hold (setX g k d) (RPost K Tb B W F ρ σ Q))
    {R : VK} (h : ∀ ns p, H p = none → ns.length ≤ 1000 → Hold (g ns) (RPost K Tb B W F ρ σ Q) → Sim K Tb B W F ρ σ (upd H p (SetO w p (fun j => decide (j ∈ ns)) (nub ns).length)) → R (.ref p) (upd H p (SetO w p (fun j => decide (j ∈ ns)) (nub ns).length)))
    (h2 : ∀ ds p (LD : List (Addr × PyData)), H p = none → Hold (k ds) (RPost K Tb B W F ρ σ Q) → (∀ q ∈ LD, Dp K W.Φ (.ref q.1) q.2 ∧ Sx.okT q.2) → PySem.W.AllAlike (LD.map (·.2)) → LD.length ≤ 76 → (LD.map (·.2)).Perm (nubD ds) → (∀ d ∈ ds, Sx.treeB d = true) →
      Sim K Tb B W F ρ σ (upd H p (SetNO w p (Sx.encE LD))) → R (.ref p) (upd H p (SetNO w p (Sx.encE LD)))) : rSetX K w [v] H R := by
  cases d with
  | list ds =>
    unfold setX at q
    dsimp only at q
    cases e : intsOf ds with
    | some ns =>
      rw [e] at q
      obtain ⟨hl, q⟩ := hold_if q
      obtain ⟨p, vs, rfl, h1, hz, h3⟩ := a.list
      rw [(ints_vals h3 e).1] at h1
      exact .inl (.inl ⟨p, ns, rfl, h1, hl, fun p hp => h ns p hp hl q (s.laid hp)⟩)
    | none =>
      rw [e] at q
      obtain ⟨ht, q⟩ := hold_if q
      unfold tupsB at ht
      obtain ⟨t1, t2⟩ := and2 ht
      obtain ⟨t3, t4⟩ := and2 t1
      obtain ⟨p, vs, rfl, h1, hz, h3⟩ := a.list
      have ok : ∀ d ∈ ds, Sx.okT d := fun d hd => tupB_ok (List.all_eq_true.mp t3 d hd)
      obtain ⟨ks, rfl, rfl, hk⟩ := dp_refs h3 fun d hd => (ok d hd).2.2
      have okk : ∀ p ∈ ks, Sx.okT p.2 := fun p hp => ok p.2 (List.mem_map.mpr ⟨p, hp, rfl⟩)
      have hl : ks.length ≤ 76 := by
        have z := of_decide_eq_true t2
        rwa [List.length_map] at z
      have tr : ∀ d ∈ ks.map (·.2), Sx.treeB d = true := fun d hd => (ok d hd).1
      refine .inr ⟨p, ks, rfl, h1, fun p hp => ⟨dp_le s.w.fz _ _ (hk p hp), okk p hp⟩, hl, fun p2 LD hp2 hLD pm => ?_⟩
      refine h2 _ p2 LD hp2 q (fun q hq => ⟨hk q (hLD q hq), okk q (hLD q hq)⟩) (fun d hd e he => ?_) ?_ pm tr (s.laid hp2)
      · have sub : ∀ d ∈ LD.map (·.2), d ∈ ks.map (·.2) := fun d hd => by
          obtain ⟨p, hp, rfl⟩ := List.mem_map.mp hd
          exact List.mem_map.mpr ⟨p, hLD p hp, rfl⟩
        exact alikeB_ok t4 d (sub d hd) e (sub e he)
      · have z := pm.length_eq
        rw [List.length_map] at z
        have z2 := nubD_len tr
        rw [List.length_map] at z2
        omega
  | tuple ds =>
    unfold setX at q
    dsimp only at q
    cases e : intsOf ds with
    | some ns =>
      rw [e] at q
      obtain ⟨hl, q⟩ := hold_if q
      obtain ⟨p, vs, rfl, h0, h1, hz, h3⟩ := a.tup s.w
      rw [(ints_vals h3 e).1] at h1
      exact .inl (.inr ⟨p, ns, rfl, h1, hl, fun p hp => h ns p hp hl q (s.laid hp)⟩)
    | none =>
      rw [e] at q
      exact q.elim
  | _ => exact q.elim
def lenSetX : PyData → T AV := setX (fun ns => .ret (.sh (.int ((nub ns).length : Nat)))) fun ds => .ret (.sh (.int ((nubD ds).length : Nat)))
def sortSetX : PyData → T AV := setX (fun ns => if (nub ns).length < 64 then .ret (.own (((nub ns).mergeSort fun a b => decide (a ≤ b)).map PyData.int)) else .err) fun ds => .ret (.own (sortOf (nubD ds)))
variable {e : Expr} {f : Env → T PyData} {p1 p2 pos pos2 : Pos}
theorem pd_lenSetX (hu : X.A.units + 200 < cLine) (hc : X.calm = true) (hg : Gl X "len") (hm : X.mg "len" = none) (hg2 : Gl X "set") (hm2 : X.mg "set" = none) (he : PB Tb B X e f)
    (h1 : starEach [.Call (.Name "set" p2) [e] [] pos2] X.env = (false, eval (.Call (.Name "set" p2) [e] [] pos2) X.env) :: starEach [] X.env := by rfl) (h2 : starEach [e] X.env = (false, eval e X.env) :: starEach [] X.env := by rfl) :
    PD Tb B X (.Call (.Name "len" p1) [.Call (.Name "set" p2) [e] [] pos2] [] pos) fun ρ => (f ρ).bind lenSetX := by
  have cl : CallR X (.builtin "len") fun vs H Q => rLenSet X.w vs H Q ∨ rLenN X.w vs H Q := fun pins s σ H vs us Q I r h => h.elim (cr_lenSet pins s σ H vs us Q I r) (cr_lenN pins s σ H vs us Q I r)
  refine PE.weaken (pe_callB cl hg hm boot_len (pa_cons (pe_callTy (cr_setX hc (by omega)) hg2 hm2 boot_set (pa_cons he pa_nil h2) (by decide) (by decide) h2) pa_nil h1) (by decide) (by decide) h1) fun σ H Q ⟨W, F, ρ, s, q⟩ => ?_
  refine ⟨W, F, ρ, s, (Hold.bind q).mono fun d z W1 H1 v e1 s1 r1 => ?_⟩
  show rSetX X.K X.w [v] H1 fun x H2 => rLenSet X.w [x] H2 Q ∨ rLenN X.w [x] H2 Q
  refine setX_read (w := X.w) s1 (r1 W1 F H1 (Ext.refl _) s1) (z.mono fun av => RPost.ext e1) (fun ns p hp hl q s2 => ?_) fun ds p LD hp q _ _ hl pm _ s2 => ?_
  · have hn := nub_le ns
    exact .inl ⟨p, _, _, rfl, upd_same, by omega, q W1 _ _ (Ext.refl _) s2 (.int _)⟩
  · have z := pm.length_eq
    rw [List.length_map] at z
    refine .inr ⟨p, _, rfl, upd_same, by rw [List.length_map]; omega, ?_⟩
    rw [List.length_map, z]
    exact q W1 _ _ (Ext.refl _) s2 (.int _)
theorem pd_sortSetX (hu : X.A.units + 200 < cLine) (hc : X.calm = true) (hg : Gl X "sorted") (hm : X.mg "sorted" = none) (hg2 : Gl X "set") (hm2 : X.mg "set" = none) (he : PB Tb B X e f)
    (h1 : starEach [.Call (.Name "set" p2) [e] [] pos2] X.env = (false, eval (.Call (.Name "set" p2) [e] [] pos2) X.env) :: starEach [] X.env := by rfl) (h2 : starEach [e] X.env = (false, eval e X.env) :: starEach [] X.env := by rfl) :
    PD Tb B X (.Call (.Name "sorted" p1) [.Call (.Name "set" p2) [e] [] pos2] [] pos) fun ρ => (f ρ).bind sortSetX := by
  have cl : CallR X (.builtin "sorted") fun vs H Q => rSortedSet X.w vs H Q ∨ rSortedN X.K X.w vs H Q := fun pins s σ H vs us Q I r h => h.elim (cr_sortedSet hc pins s σ H vs us Q I r) (cr_sortedN hc (by omega) pins s σ H vs us Q I r)
  refine PE.weaken (pe_callB cl hg hm boot_sorted (pa_cons (pe_callTy (cr_setX hc (by omega)) hg2 hm2 boot_set (pa_cons he pa_nil h2) (by decide) (by decide) h2) pa_nil h1) (by decide) (by decide) h1) fun σ H Q ⟨W, F, ρ, s, q⟩ => ?_
  refine ⟨W, F, ρ, s, (Hold.bind q).mono fun d z W1 H1 v e1 s1 r1 => ?_⟩
  show rSetX X.K X.w [v] H1 fun x H2 => rSortedSet X.w [x] H2 Q ∨ rSortedN X.K X.w [x] H2 Q
  refine setX_read (w := X.w) s1 (r1 W1 F H1 (Ext.refl _) s1) (z.mono fun av => RPost.ext e1) (fun ns p hp hl q s2 => ?_) fun ds p LD hp q hk hal hl pm tr s2 => ?_
  · obtain ⟨hn, q⟩ := hold_if q
    refine .inl ⟨p, _, _, rfl, upd_same, hn, fun ms p2 hs hm hle hp2 => ?_⟩
    have em := sorted_nub hs hm
    subst em
    have hs : (64 : Nat) ≤ sizeLine := by decide
    exact s2.mkL (DpAll.ints _) (by rw [List.length_map, hle]; omega) q p2 hp2
  · refine .inr ⟨p, LD, rfl, upd_same, fun q hq => ⟨dp_le s2.w.fz _ _ (hk q hq).1, (hk q hq).2⟩, hal, hl, fun p2 L' hp2 pL em => ?_⟩
    have eS : sortOf (LD.map (·.2)) = sortOf (nubD ds) := Sx.sort_one_list pm (fun d hd => by
      obtain ⟨q, hq, rfl⟩ := List.mem_map.mp hd
      exact (hk q hq).2.1) hal
    have hd : DpAll X.K W1.Φ (L'.map fun q => V.ref q.1) (sortOf (nubD ds)) := by
      rw [← eS, ← em]
      have all : ∀ q ∈ L', Dp X.K W1.Φ (.ref q.1) q.2 := fun q hq => (hk q (pL.mem_iff.mp hq)).1
      clear em eS pL hp2
      induction L' with
      | nil => exact .nil
      | cons q L' ih => exact .cons (all q List.mem_cons_self) (ih fun r hr => all r (List.mem_cons_of_mem _ hr))
    refine s2.mkL hd ?_ q p2 hp2
    rw [List.length_map, pL.length_eq]
    have h76 : (76 : Nat) ≤ sizeLine := by decide
    omega
end
end Dn
end
section
set_option Elab.async false
set_option linter.all false
set_option autoImplicit false
set_option maxRecDepth 100000
/-! Et: enumerate(a tuple). -/
namespace Et
open PySem PySem.Spec PyProof.Rows L2
open AutoSeq1 (wpAny_loadPart')

/-- making it -/
theorem made (t : Addr) (items : Array Value) (n : Nat) (dct : Option Addr) (sl : Array (Option Value)) :
    Meets (Builtin.«enumerate.__new__» ⟨[.type "enumerate", .ref t], []⟩) (fun _ R s => s.heap.get? t = some { cls := .type "tuple", dict := dct, data := .seq items n, slots := sl } ∧
      R (.ok (.ret (.ref (s.heap.push { cls := .type "tuple_iterator", data := .fields #[.ref t, .int 0 0] }).objs.size)))
        { s with heap := (s.heap.push { cls := .type "tuple_iterator", data := .fields #[.ref t, .int 0 0] }).push { cls := .type "enumerate", data := .fields #[.none, .bool false, .ref s.heap.objs.size, rawInt 0, .none, .none] } }) :=
  .of_wp fun prog w A R s h => by
    obtain ⟨hp, g, d, tk, os⟩ := s
    obtain ⟨hl, h⟩ := h
    have hsub := sub_enumerate
    have hT : Heap.IsTuple (Shared.heap ⟨hp, g, d, tk, os⟩) t items := ⟨_, hl, rfl, n, rfl⟩
    wp_walk using wpAny_loadPart' hl
    refine wpAny_stack_any fun st => wpAny_pure ?_
    split
    · rename_i c _ _ _ _ _
      cases (c == Value.type "enumerate")
      · wp_walk using wpAny_loadPart' hl, wpAny_pyIter_tuple hT
        exact ⟨_, rfl, h⟩
      · wp_walk using wpAny_loadPart' hl, wpAny_pyIter_tuple hT
        exact ⟨_, rfl, h⟩
    · wp_walk using wpAny_loadPart' hl, wpAny_pyIter_tuple hT
      exact ⟨_, rfl, h⟩
section
variable {prog : Program} {w : World} {A : Around} {E : Value → Shared → Prop} {s : Shared}
theorem call_tup {t : Addr} {items : Array Value} {Q : Value → Shared → Prop} (ht : s.heap.IsTuple t items)
    (h : ∀ h', IsEnum h' (s.heap.objs.size + 1) s.heap.objs.size 0 .none → h'.IsTupleIter s.heap.objs.size t 0 → (∀ b o, s.heap.get? b = some o → h'.get? b = some o) → Q (.ref (s.heap.objs.size + 1)) { s with heap := h' }) :
    wpAny (model prog w) A (call (.type "enumerate") [.ref t]) Q E s := by
  obtain ⟨⟨c, dct, dt, sl⟩, ho, hc, n, hd⟩ := ht
  dsimp only at hc hd
  subst hc hd
  refine callType_new F.called_enumerate (by decide) (F.typeCall_enumerate_1 _) (F.newCall_enumerate_1 _) (fun obj => F.args_object_init_2 obj _) F.entry_enumerate_new (made t items n dct sl) ⟨ho, ?_⟩
  have hz : (s.heap.push { cls := .type "tuple_iterator", data := .fields #[.ref t, .int 0 0] }).objs.size = s.heap.objs.size + 1 := Heap.size_push ..
  show _ ∧ _
  rw [hz]
  have he : IsEnum ((s.heap.push { cls := .type "tuple_iterator", data := .fields #[.ref t, .int 0 0] }).push { cls := .type "enumerate", data := .fields #[.none, .bool false, .ref s.heap.objs.size, rawInt 0, .none, .none] }) (s.heap.objs.size + 1) s.heap.objs.size 0 .none := by
    have z := Heap.get?_push_size (s.heap.push { cls := .type "tuple_iterator", data := .fields #[.ref t, .int 0 0] }) (o := { cls := .type "enumerate", data := .fields #[.none, .bool false, .ref s.heap.objs.size, rawInt 0, .none, .none] }) rfl
    rwa [hz] at z
  exact ⟨⟨_, he, rfl⟩, h _ he ⟨_, Heap.get?_push_of_some _ (Heap.get?_push_size _ rfl), rfl, rfl⟩ fun b o x => Heap.get?_push_of_some _ (Heap.get?_push_of_some _ x)⟩
/-- the next pair -/
theorem next_item {e it t : Addr} {i : Nat} {items : Array Value} {x old : Value} {Q : Value → Shared → Prop} (he : IsEnum s.heap e it i old) (hit : s.heap.IsTupleIter it t i) (ht : s.heap.IsTuple t items) (hx : items[i]? = some x) (hne : e ≠ it)
    (hQ : ∀ h', IsEnumOut h' e it ((i : Int) + 1) x s.heap.objs.size → h'.IsTupleIter it t (i + 1) → h'.get? s.heap.objs.size = some { cls := .type "tuple", data := .seq #[.int i s.toks, x] } →
      (∀ b o, b ≠ e → b ≠ it → s.heap.get? b = some o → h'.get? b = some o) → Q (.ref s.heap.objs.size) { s with heap := h', toks := s.toks + 1 }) :
    wpAny (model prog w) A (Builtin.«enumerate.__next__» ⟨[.ref e], []⟩) (fun fin s' => ∃ v, fin = .done (.ret v) ∧ Q v s') E s := by
  obtain ⟨hp, g, d, tk, os⟩ := s
  have flip : ∀ {h h' : Heap}, Heap.SameBut e h h' → h.IsTupleIter it t (i + 1) → h'.IsTupleIter it t (i + 1) := fun hs x => x.extBut hs.extBut (Ne.symm hne)
  show wpAny _ _ (field (.ref e) 2 >>= _) _ _ _
  refine wpAny_bind (wpAny_field he rfl (x := .ref it) rfl ?_)
  refine wpAny_bind (RZ.nextOf_tuple_item hit ht hx fun g1 it1 s1 => ?_)
  replace s1 : Heap.SameBut it hp g1 := s1
  have e1 : IsEnum g1 e it i old := (s1.2 e hne).trans he
  show wpAny _ _ (field (.ref e) 3 >>= _) _ _ ⟨g1, g, d, tk, os⟩
  refine wpAny_bind (wpAny_field e1 rfl (x := rawInt i) rfl ?_)
  show wpAny _ _ (field (.ref e) 4 >>= _) _ _ ⟨g1, g, d, tk, os⟩
  refine wpAny_bind (wpAny_field e1 rfl (x := .none) rfl ?_)
  show wpAny _ _ (mkInt i >>= _) _ _ ⟨g1, g, d, tk, os⟩
  refine wpAny_bind (wpAny_mkInt ?_)
  show wpAny _ _ (setField (.ref e) 3 (rawInt ((i : Int) + 1)) >>= _) _ _ ⟨g1, g, d, tk + 1, os⟩
  refine wpAny_bind (wpAny_setField_rec e1 (by simp) fun g2 e2 s2 => ?_)
  replace s2 : Heap.SameBut e g1 g2 := s2
  replace e2 : IsEnum g2 e it ((i : Int) + 1) old := e2
  show wpAny _ _ (setField (.ref e) 4 .none >>= _) _ _ ⟨g2, g, d, tk + 1, os⟩
  refine wpAny_bind (wpAny_setField_rec e2 (by simp) fun g3 e3 s3 => ?_)
  replace s3 : Heap.SameBut e g2 g3 := s3
  replace e3 : IsEnum g3 e it ((i : Int) + 1) old := e3
  show wpAny _ _ (newTuple [.int i tk, x] >>= _) _ _ ⟨g3, g, d, tk + 1, os⟩
  refine wpAny_bind (wpAny_newTuple ?_)
  have e4 : IsEnum (g3.push { cls := .type "tuple", data := .seq #[.int i tk, x] }) e it ((i : Int) + 1) old := Heap.get?_push_of_some _ e3
  generalize hg4 : g3.push { cls := .type "tuple", data := .seq #[.int i tk, x] } = g4 at e4
  have hsz : g3.objs.size = hp.objs.size := by rw [s3.1, s2.1, s1.1]
  have hel : e < hp.objs.size := Heap.lt_size he
  have t4 : g4.get? hp.objs.size = some { cls := .type "tuple", data := .seq #[.int i tk, x] } := by
    rw [← hg4, ← hsz]
    exact Heap.get?_push_size _ rfl
  have k4 : ∀ b o, b ≠ e → b ≠ it → hp.get? b = some o → g4.get? b = some o := fun b o hbe hbi hb => by
    rw [← hg4]
    exact Heap.get?_push_of_some _ (s3.extBut b o hbe (s2.extBut b o hbe (s1.extBut b o hbi hb)))
  have it4 : g4.IsTupleIter it t (i + 1) := by
    rw [← hg4]
    obtain ⟨o, ho, r⟩ := flip s3 (flip s2 it1)
    exact ⟨o, Heap.get?_push_of_some _ ho, r⟩
  show wpAny _ _ (Builtin.SmallTypes.ownedTupleIsFree (.ref e) >>= _) _ _ ⟨g4, g, d, tk + 1, os⟩
  rw [hsz]
  clear hg4 e3 s3 e2 s2 e1 s1 it1 hsz g3 g2 g1
  refine wpAny_bind ?_
  unfold Builtin.SmallTypes.ownedTupleIsFree
  refine wpAny_bind (wpAny_field e4 rfl (x := .none) rfl (wpAny_pure ?_))
  simp only [if_true]
  refine wpAny_bind (wpAny_rule ?_)
  refine wpAny_bind (wpAny_field e4 rfl (x := old) rfl ?_)
  refine wpAny_bind (wpAny_setField_rec e4 (by simp) fun g5 e5 s5 => ?_)
  replace s5 : Heap.SameBut e g4 g5 := s5
  replace e5 : IsEnum g5 e it ((i : Int) + 1) x := e5
  show wpAny _ _ (Builtin.SmallTypes.ownedTupleHandOut (.ref e) (.ref hp.objs.size) >>= _) _ _ ⟨g5, g, d, tk + 1, os⟩
  refine wpAny_bind ?_
  unfold Builtin.SmallTypes.ownedTupleHandOut
  refine wpAny_bind (wpAny_setField_rec e5 (by simp) fun g6 e6 s6 => ?_)
  replace s6 : Heap.SameBut e g5 g6 := s6
  replace e6 : IsEnumOut g6 e it ((i : Int) + 1) x hp.objs.size := e6
  refine wpAny_setField_rec e6 (by simp) fun g7 e7 s7 => ?_
  replace s7 : Heap.SameBut e g6 g7 := s7
  replace e7 : IsEnumOut g7 e it ((i : Int) + 1) x hp.objs.size := e7
  refine wpAny_bind (wpAny_letGo (wpAny_pure ⟨_, rfl, hQ g7 e7 (flip s7 (flip s6 (flip s5 it4))) ?_ fun b o hbe hbi hb => ?_⟩))
  · exact s7.extBut _ _ (Nat.ne_of_gt hel) (s6.extBut _ _ (Nat.ne_of_gt hel) (s5.extBut _ _ (Nat.ne_of_gt hel) t4))
  · exact s7.extBut b o hbe (s6.extBut b o hbe (s5.extBut b o hbe (k4 b o hbe hbi hb)))
theorem py_item {e it t : Addr} {i : Nat} {items : Array Value} {x old : Value} {Q : Option Value → Shared → Prop} (he : IsEnum s.heap e it i old) (hit : s.heap.IsTupleIter it t i) (ht : s.heap.IsTuple t items) (hx : items[i]? = some x) (hne : e ≠ it)
    (hQ : ∀ h', IsEnumOut h' e it ((i : Int) + 1) x s.heap.objs.size → h'.IsTupleIter it t (i + 1) → h'.get? s.heap.objs.size = some { cls := .type "tuple", data := .seq #[.int i s.toks, x] } →
      (∀ b o, b ≠ e → b ≠ it → s.heap.get? b = some o → h'.get? b = some o) → Q (some (.ref s.heap.objs.size)) { s with heap := h', toks := s.toks + 1 }) :
    wpAny (model prog w) A (pyNext (.ref e)) Q E s := by
  have hT : s.TypeIs (.ref e) "enumerate" := ⟨_, he, rfl⟩
  unfold pyNext
  exact wpAny_bind (wpAny_attempt (wpAny_callSpecial?_slot (name := Str.ofString "__next__") hT F.slot_enumerate_next (wpAny_call_entry F.slot_enumerate_next hT F.entry_enumerate_next
    (next_item he hit ht hx hne fun h' a b c k => wpAny_pure (hQ h' a b c k)) (F.args_enumerate_next_1 _))))
theorem py_end {e it t : Addr} {i : Nat} {items : Array Value} {old : Value} {Q : Option Value → Shared → Prop} (hh : A.handled = none) (he : IsEnum s.heap e it i old) (hit : s.heap.IsTupleIter it t i) (ht : s.heap.IsTuple t items) (hx : items[i]? = none)
    (hQ : ∀ h', Heap.ExtBut it s.heap h' → Q none { s with heap := h' }) : wpAny (model prog w) A (pyNext (.ref e)) Q E s := by
  have hT : s.TypeIs (.ref e) "enumerate" := ⟨_, he, rfl⟩
  unfold pyNext
  refine wpAny_bind (wpAny_attempt (wpAny_callSpecial?_slot (name := Str.ofString "__next__") hT F.slot_enumerate_next (wpAny_call_entry F.slot_enumerate_next hT F.entry_enumerate_next ?_ (F.args_enumerate_next_1 _))))
  show wpAny _ _ (field (.ref e) 2 >>= _) _ _ _
  refine wpAny_bind (wpAny_field he rfl (x := .ref it) rfl ?_)
  refine wpAny_bind (RZ.nextOf_tuple_end hh hit ht hx fun h' x he' hx' => ?_)
  obtain ⟨o, ho, hc⟩ := hx'
  refine wpAny_bind (wpAny_isInstance (T := "StopIteration") (b := true) ⟨o, ho, hc⟩ isSubtype_stop ?_)
  exact wpAny_pure (hQ _ he')
end
/-- the tuple at a, each item in a new pair -/
def ItT (K : PySem.W.Frag) (a : Addr) : It :=
  ⟨fun i H => ∃ (xs : List V) (x : V), SqT K H a xs ∧ xs[i]? = some x, fun i H v H' => ∃ T x, v = .ref T ∧ H T = none ∧ H' = upd H T (.tup [.int (i : Nat), x]) ∧ ∀ xs, SqT K H a xs → xs[i]? = some x, fun i H => ∃ xs : List V, SqT K H a xs ∧ xs.length ≤ i⟩
section
variable {P : Program} {w : World} {K : PySem.W.Frag}
theorem turn {elts : List Expr} {kk : Nat} {tpos : Pos} (a e it : Addr) :
    Turn P w K (.Tuple elts kk tpos) (ItT K a) [e, it] e (fun i h => (∃ old, IsEnum h e it ((i : Nat) : Int) old) ∧ h.IsTupleIter it a i ∧ e ≠ it) where
  mem := by simp
  obj := fun i h st b hb => by
    obtain ⟨⟨old, he⟩, ⟨o, ho, hc, hd⟩, _⟩ := st
    rcases (by simpa using hb : b = e ∨ b = it) with z | z
    · rw [z]; exact ⟨_, he, fun v q => nomatch q⟩
    · rw [z]; exact ⟨o, ho, fun v q => by rw [hd] at q; cases q⟩
  keep := fun i h h' st k => by
    obtain ⟨⟨old, he⟩, ⟨o, ho, r⟩, hne⟩ := st
    exact ⟨⟨old, k e (by simp) _ he⟩, ⟨o, k it (by simp) _ ho, r⟩, hne⟩
  item := by
    intro X hP hw hK hc i pins s σ H E I hf st hg
    subst hP hw hK
    obtain ⟨⟨old, he⟩, hit, hne⟩ := st
    obtain ⟨xs, x, hq, hx⟩ := hg
    obtain ⟨its, rv, p, hz⟩ := I.tuple hq
    obtain ⟨u, hu, ru⟩ := rv.get hx
    have hel : e < s.heap.objs.size := Heap.lt_size he
    have hil : it < s.heap.objs.size := by obtain ⟨_, q, _⟩ := hit; exact Heap.lt_size q
    refine py_item he hit p (x := u) (by simpa using hu) hne fun h' ho hit' hT hk => ?_
    refine ⟨_, rfl, wpAny_letOwnedTupleGo_enum (s := { s with heap := h', toks := s.toks + 1 }) ho fun h'' he' sb => ?_⟩
    have hT2 : h''.get? s.heap.objs.size = some { cls := .type "tuple", data := .seq #[.int i s.toks, u] } := (sb.2 _ (Nat.ne_of_gt hel)).trans hT
    have new : ObjOk X.prog X.w (upd H s.heap.objs.size (.tup [.int (i : Nat), x])) h'' s.heap.objs.size (.tup [.int (i : Nat), x]) :=
      ⟨by show 2 ≤ sizeLine; decide, [.int i s.toks, u], .cons ⟨_, rfl⟩ (.cons ru .nil), ⟨_, hT2, rfl, _, rfl⟩⟩
    have I1 : Inv X pins σ (upd H s.heap.objs.size (.tup [.int (i : Nat), x])) { s with heap := h'', toks := s.toks + 1 } :=
      I.turnedNew (ch := [e, it]) (fun b ob hb q => (sb.2 b (fun z => hb (by simp [z]))).trans (hk b ob (fun z => hb (by simp [z])) (fun z => hb (by simp [z])) q)) hf (Nat.le_refl _) new
    refine ⟨.ref s.heap.objs.size, _, I1, rfl, ⟨_, x, rfl, I.hok.fresh (Nat.le_refl _), rfl, fun ys hy => by rw [I.tuple_inj hy hq]; exact hx⟩, ⟨⟨u, ?_⟩, hit'.extBut sb.extBut (Ne.symm hne), hne⟩, fun b hb => ?_⟩
    · have e1 : ((i + 1 : Nat) : Int) = (i : Int) + 1 := by omega
      rw [e1]; exact he'
    · have hb' : b < s.heap.objs.size := by
        rcases (by simpa using hb : b = e ∨ b = it) with z | z
        · rw [z]; exact hel
        · rw [z]; exact hil
      rw [upd_ne (Nat.ne_of_lt hb')]
      exact (hf b hb).1
  done := by
    intro X hP hw hK hc i pins s σ H E I hf st hg
    subst hP hw hK
    obtain ⟨⟨old, he⟩, hit, hne⟩ := st
    obtain ⟨xs, hq, hx⟩ := hg
    obtain ⟨its, rv, p, hz⟩ := I.tuple hq
    obtain ⟨f0, f1, f2, f3, f4, f5⟩ := hf it (by simp)
    have hl := rv.length
    exact py_end (I.ok.hd hc) he hit p (by simp; omega) fun h' eb => ⟨rfl, I.turned (t' := s.toks) (fun b o hb q => eb b o hb q) f0 f1 f3 f4 f5⟩
  self := fun A i s Q E st h => let ⟨⟨_, he⟩, _⟩ := st; wpAny_pyIter_enum he h
def iEnum2 (K : PySem.W.Frag) (ta : TA) : TI := fun σ H R => ta σ H fun vs H1 => ∃ a xs, vs = [.ref a] ∧ ((SqL K H1 a xs ∧ R (Ite K a) H1) ∨ (SqT K H1 a xs ∧ R (ItT K a) H1))
theorem pi_enum2 {X : Cx} {e : Expr} {ta : TA} {p pos tpos : Pos} {elts : List Expr} {kk : Nat} (hg : Gl X "enumerate") (hm : X.mg "enumerate" = none) (ha : PA X [e] ta) (hs : starEach [e] X.env = [(false, eval e X.env)] := by rfl) :
    PI X (.Tuple elts kk tpos) (.Call (.Name "enumerate" p) [e] [] pos) (iEnum2 X.K ta) := by
  refine ⟨fun pins s σ H R I h => ?_⟩
  refine Call_ (ld_blt I hg hm boot_enumerate (PyProof.Rows.callWith_type1 (thn (ha.run pos pins s σ H _ I h) fun us s1 ⟨vs, H1, I1, r1, q1⟩ => ?_) hs rfl))
  obtain ⟨a, xs, rfl, q⟩ := q1
  cases r1 with
  | cons r rr =>
    cases rr
    cases r
    have ok : ∀ b, b ∈ [s1.heap.objs.size + 1, s1.heap.objs.size] → s1.heap.objs.size ≤ b := fun b hb => by
      rcases (by simpa using hb : b = s1.heap.objs.size + 1 ∨ b = s1.heap.objs.size) with z | z
      · rw [z]; exact Nat.le_add_right _ _
      · rw [z]; exact Nat.le_refl _
    rcases q with ⟨hq, q⟩ | ⟨hq, q⟩
    · obtain ⟨its, rv, p', hz⟩ := I1.list hq
      refine call_enumerate_list p'.isList fun h' he hit hsz hk => wpAny_pyIter_enum he ?_
      have I2 : Inv X pins σ H1 { s1 with heap := h' } := I1.kept (t' := s1.toks) hk
      exact ⟨s1.heap.objs.size + 1, [s1.heap.objs.size + 1, s1.heap.objs.size], _, _, H1, rfl, I2, turn_enum a (s1.heap.objs.size + 1) s1.heap.objs.size, ⟨⟨.none, he⟩, hit, Nat.succ_ne_self _⟩, fun b hb => I1.fpOk (ok b hb) (I1.hok.fresh (ok b hb)), q⟩
    · obtain ⟨its, rv, p', hz⟩ := I1.tuple hq
      refine call_tup p' fun h' he hit hk => wpAny_pyIter_enum he ?_
      have I2 : Inv X pins σ H1 { s1 with heap := h' } := I1.kept (t' := s1.toks) hk
      exact ⟨s1.heap.objs.size + 1, [s1.heap.objs.size + 1, s1.heap.objs.size], _, _, H1, rfl, I2, turn a (s1.heap.objs.size + 1) s1.heap.objs.size, ⟨⟨.none, he⟩, hit, Nat.succ_ne_self _⟩, fun b hb => I1.fpOk (ok b hb) (I1.hok.fresh (ok b hb)), q⟩
end
end Et
end
section
set_option Elab.async false
set_option linter.all false
set_option autoImplicit false
set_option maxRecDepth 100000
/-! Dn14: enumerate of a list or a tuple. -/
namespace Dn
open PySem PySem.Spec PyProof.Rows L2 LamX

section
variable {Tb : List (Addr × Str)} {B : Wd → V → (List PyData → T PyData) → Prop} {X : Cx}
theorem drives_enumT {K : PySem.W.Frag} {a : Addr} {xs : List V} {ds : List PyData} {W : Wd} {F H : Hp} (w : WOk Tb W F H) (h : SqT K W.Φ a xs) (hd : DpAll K W.Φ xs ds) : Drives K Tb B (Et.ItT K a) W (enumL ds) := by
  have l1 := DpAll.len hd
  have hl : (enumL ds).length = ds.length := by simp [enumL]
  have z1 := sqT_sz w h
  have get : ∀ {i : Nat} {d : PyData}, (enumL ds)[i]? = some d → ∃ x, ds[i]? = some x ∧ d = .tuple [.int (i : Nat), x] := fun {i d} q => by
    unfold enumL at q
    rw [List.getElem?_map, List.getElem?_zipIdx] at q
    cases e1 : ds[i]? with
    | none => rw [e1] at q; cases q
    | some x =>
      rw [e1] at q
      refine ⟨x, rfl, ?_⟩
      have q := (Option.some.inj q).symm
      rw [q]
      simp
  refine ⟨by omega, fun i W' F' H' hi e w' => ?_, fun W' F' H' e w' => ?_, fun i x H1 H2 d W' F' ρ σ hi e s hy => ?_⟩
  · obtain ⟨x, hx, _⟩ := get (List.getElem?_eq_getElem hi)
    obtain ⟨v, hv, _⟩ := DpAll.get hd hx
    exact ⟨xs, v, sqT_le w'.fz (sqT_le e.φ h), hv⟩
  · exact ⟨xs, sqT_le w'.fz (sqT_le e.φ h), by omega⟩
  · obtain ⟨p, v, rfl, hp, rfl, hx⟩ := hy
    obtain ⟨dx, gx, rfl⟩ := get hi
    have q1 := hx xs (sqT_le s.w.fz (sqT_le e.φ h))
    obtain ⟨v', hv, hvd⟩ := DpAll.get hd gx
    rw [q1] at hv; cases hv
    exact s.pair hp (.int _) (dp_le e.φ _ _ hvd)
def enumX : List PyData → T (List PyData)
  | [.list xs] => .ret (enumL xs)
  | [.tuple xs] => .ret (enumL xs)
  | _ => .err
abbrev itE2 (g : Env → T (List AV)) : Env → T (List PyData) := fun ρ => (g ρ).bind fun as => (allS as).bind enumX
variable {e : Expr} {pos : Pos}
theorem pid_enum2 {g : Env → T (List AV)} {elts : List Expr} {kk : Nat} {p tpos : Pos} (hg : Gl X "enumerate") (hm : X.mg "enumerate" = none) (ha : PAD Tb B X [e] g)
    (hs : starEach [e] X.env = (false, eval e X.env) :: starEach [] X.env := by rfl) :
    PID Tb B X (.Tuple elts kk tpos) (.Call (.Name "enumerate" p) [e] [] pos) (itE2 g) := by
  refine ⟨PI.weaken (Et.pi_enum2 hg hm ha hs) fun σ H R ⟨W, F, ρ, s, q⟩ => ra_data ⟨W, F, ρ, s, (Hold.bind q).mono fun as z => (Hold.bind z).mono fun ds z W1 H1 vs e1 s1 hv => ?_⟩⟩
  unfold enumX at z
  split at z
  · cases hv with
    | cons h1 h2 =>
      cases h2
      cases h1 with
      | lst hs1 ha1 => exact ⟨_, _, rfl, .inl ⟨sqL_le s1.w.fz hs1, z W1 H1 _ e1 s1 (drives_enum s1.w hs1 ha1)⟩⟩
  · cases hv with
    | cons h1 h2 =>
      cases h2
      cases h1 with
      | tup hs1 ha1 => exact ⟨_, _, rfl, .inr ⟨sqT_le s1.w.fz hs1, z W1 H1 _ e1 s1 (drives_enumT s1.w hs1 ha1)⟩⟩
  · exact z.elim
end
end Dn
end
section
set_option Elab.async false
set_option linter.all false
set_option autoImplicit false
set_option maxRecDepth 100000
/-! Dn15: repr of a written list whose elements are only read; an own list repeated; a tuple repeated. -/
namespace Dn
open PySem PySem.Spec PyProof.Rows L2 LamX

section
variable {Tb : List (Addr × Str)} {B : Wd → V → (List PyData → T PyData) → Prop} {X : Cx}
theorem rball_dp {K : PySem.W.Frag} {W : Wd} {F H : Hp} (w : WOk Tb W F H) : ∀ {vs : List V} {ds : List PyData}, RbAll K W H vs ds → DpAll K H vs ds
  | _, _, .nil => .nil
  | _, _, .cons h t => .cons (h.dp w) (rball_dp w t)
theorem DpAll.len_r {K : PySem.W.Frag} {W : Wd} {H : Hp} : ∀ {vs : List V} {ds : List PyData}, RbAll K W H vs ds → vs.length = ds.length
  | _, _, .nil => rfl
  | _, _, .cons _ t => by rw [List.length_cons, List.length_cons, DpAll.len_r t]
abbrev reprL (g : Env → T (List PyData)) : Env → T AV := fun ρ => (g ρ).bind fun ds => if ds.length ≤ 4000 then reprD [.list ds] else .err
/-- repr([..]): what stands in it stays as it is -/
theorem pd_reprL {es : List Expr} {g : Env → T (List PyData)} {p lpos pos : Pos} (hgd : X.A.guards = some []) (hu : X.A.units + 200 < cLine) (hg : Gl X "repr") (hm : X.mg "repr" = none) (ha : PAB Tb B X es g)
    (h1 : starEach [.List es lpos] X.env = (false, eval (.List es lpos) X.env) :: starEach [] X.env := by rfl) :
    PD Tb B X (.Call (.Name "repr" p) [.List es lpos] [] pos) (reprL g) := by
  refine PE.weaken (pe_callB (cr_reprD hgd hu) hg hm (by decide +kernel) (pa_cons (pe_lst ha) pa_nil h1) (by decide) (by decide) h1) fun σ H Q ⟨W, F, ρ, s, q⟩ => ?_
  refine ⟨W, F, ρ, s, (Hold.bind q).mono fun ds z W1 H1 vs e1 s1 hv => ?_⟩
  obtain ⟨hl, z⟩ := hold_if z
  have hr1 := hv W1 F H1 (Ext.refl _) s1
  have hlen : vs.length ≤ sizeLine := by
    have e := DpAll.len_r hr1
    have h4 : (4000 : Nat) ≤ sizeLine := by decide
    omega
  refine ⟨hlen, fun a hp => ?_⟩
  have s2 := s1.laid (o := .lst vs) hp
  have hr := rball_dp s2.w (hv W1 F _ (Ext.refl _) s2)
  obtain ⟨hb, z⟩ := hold_if z
  obtain ⟨b1, b2⟩ := and2 hb
  obtain ⟨b3, b4⟩ := and2 b1
  obtain ⟨b5, b6⟩ := and2 b2
  obtain ⟨b7, b8⟩ := and2 b5
  exact ⟨a, .list ds, rfl, .lst (.inl (.inl upd_same)) hr, b4, by simpa using b7, of_decide_eq_true b8, of_decide_eq_true b6, z W1 _ _ e1 s2 (.str _)⟩
/-- x * k of an own list -/
def mulOwn (i : Nat) (g : Env → T PyData) : Env → T AV := fun ρ => ownAt i ρ fun ds => (g ρ).bind fun k => match k with
  | .int j => if (0 ≤ j ∧ j ≤ 1000) ∧ ds.length ≤ 1000 then .ret (.own (List.replicate j.toNat ds).flatten) else .err
  | _ => .err
theorem dp_rep {K : PySem.W.Frag} {H : Hp} {vs : List V} {ds : List PyData} (h : DpAll K H vs ds) : ∀ k : Nat, DpAll K H (List.replicate k vs).flatten (List.replicate k ds).flatten
  | 0 => .nil
  | k + 1 => by
    rw [List.replicate_succ, List.replicate_succ, List.flatten_cons, List.flatten_cons]
    exact Dn.DpAll.app h (dp_rep h k)
theorem len_rep {α : Type} (l : List α) : ∀ k : Nat, (List.replicate k l).flatten.length = l.length * k
  | 0 => by simp
  | k + 1 => by
    rw [List.replicate_succ, List.flatten_cons, List.length_append, len_rep l k, Nat.mul_succ]
    omega
theorem pd_mulOwn {i : Nat} {e b : Expr} {g : Env → T PyData} {pos : Pos} (hv : PE X e (tVar i)) (hb : PB Tb B X b g) : PD Tb B X (.BinOp e .Mult b pos) (mulOwn i g) := by
  refine PE.weaken (pe_op op_rep hv hb) fun σ H Q ⟨W, F, ρ, s, q⟩ => ?_
  unfold mulOwn ownAt at q
  dsimp only at q
  cases e1 : ρ[i]? with
  | none => rw [e1] at q; exact q.elim
  | some av =>
    rw [e1] at q
    cases av with
    | own ds =>
      obtain ⟨a, vs, h1, h2, hz, h3, h4, h5, h6⟩ := s.s.own i ds e1
      refine ⟨.ref a, h1, W, F, ρ, s, (Hold.bind q).mono fun k z W1 H1 v e2 s1 r1 => ?_⟩
      obtain ⟨a', vs', q1, q2, qz, _, _, _, q6⟩ := s1.s.own i ds e1
      rw [h1] at q1
      cases q1
      have r2 := r1 W1 F H1 (Ext.refl _) s1
      cases k with
      | int j =>
        obtain ⟨⟨⟨j0, j1⟩, hl⟩, z⟩ := hold_if z
        have hlen := DpAll.len q6
        have hs : (1000000 : Nat) ≤ sizeLine := by decide
        have hm : vs'.length * j.toNat ≤ 1000 * 1000 := Nat.mul_le_mul (by omega) (by omega)
        cases r2
        refine ⟨a, j, vs', rfl, rfl, q2, by omega, by omega, by omega, fun p hp => ?_⟩
        obtain ⟨hF, s2⟩ := s1.new (vs := (List.replicate j.toNat vs').flatten) hp
        exact z W1 _ p _ e2 hF s2 (by rw [len_rep]; omega) (dp_rep q6 _)
      | _ => exact z.elim
    | _ => exact q.elim
/-- x * k of numbers, of a tuple -/
def mulX (x y : PyData) : T AV := match x, y with
  | .tuple ds, .int j => if (2 ≤ j ∧ j ≤ 1000) ∧ (ds ≠ [] ∧ ds.length ≤ 1000) then .ret (.sh (.tuple (List.replicate j.toNat ds).flatten)) else .err
  | x, y => mulD x y
theorem ok_mulX {K : PySem.W.Frag} : OpOk Tb B K (fun x y H Q => rI CMul (fun i j => .int (i * j)) x y H Q ∨ rRepT K x y H Q) mulX := fun W F ρ σ H x y d e Q s a b q => by
  have old : Hold (mulD d e) (RPost K Tb B W F ρ σ Q) → (rI CMul (fun i j => .int (i * j)) x y H Q ∨ rRepT K x y H Q) := fun q => .inl (ok_int (fun W F ρ σ H i j Q s q => by
    obtain ⟨hz, q⟩ := hold_if q
    exact ⟨i, j, rfl, rfl, hz, q W H _ (Ext.refl _) s (.int _)⟩) W F ρ σ H x y d e Q s a b q)
  cases d with
  | tuple ds =>
    cases e with
    | int j =>
      obtain ⟨⟨⟨j0, j1⟩, hn, hl⟩, q⟩ := hold_if q
      obtain ⟨p, vs, rfl, h0, h1, hz, h2⟩ := a.tup s.w
      have ey := b.int
      subst ey
      have hlen := DpAll.len h2
      have hne : vs ≠ [] := fun z => hn (by
        subst z
        cases h2
        rfl)
      have hs : (1000000 : Nat) ≤ sizeLine := by decide
      have hm : vs.length * j.toNat ≤ 1000 * 1000 := Nat.mul_le_mul (by omega) (by omega)
      exact .inr ⟨p, j, vs, rfl, rfl, h1, hne, j0, j1, by omega, s.mkT (dp_rep h2 _) (by rw [len_rep]; omega) q⟩
    | _ => exact old q
  | _ => exact old q
end
end Dn
end
section
set_option Elab.async false
set_option linter.all false
set_option maxRecDepth 100000
set_option maxHeartbeats 0
namespace LawHd
open PySem PySem.Spec PyProof.Rows L2
def top (i : Nat) : Stmt := PySem.Challenge.pw_pairsled_k71_whole_full_blocks_and_close.main.body.getD i (.Pass ⟨0, 0, 0, 0⟩)
def d_is_integer : He.DefD := ⟨("is_integer", none), "is_integer", "is_integer", defArgs (top 1), defBody (top 1), defScope (top 1), [], []⟩
def d_is_within : He.DefD := ⟨("is_within", none), "is_within", "is_within", defArgs (top 2), defBody (top 2), defScope (top 2), [], []⟩
def d_is_tuple : He.DefD := ⟨("is_tuple", none), "is_tuple", "is_tuple", defArgs (top 3), defBody (top 3), defScope (top 3), [], []⟩
def d_are_rising : He.DefD := ⟨("are_rising", none), "are_rising", "are_rising", defArgs (top 4), defBody (top 4), defScope (top 4), [], []⟩
def d_is_lot_of : He.DefD := ⟨("is_lot_of", none), "is_lot_of", "is_lot_of", defArgs (top 5), defBody (top 5), defScope (top 5), [], []⟩
def d_is_relation_of : He.DefD := ⟨("is_relation_of", none), "is_relation_of", "is_relation_of", defArgs (top 13), defBody (top 13), defScope (top 13), [], []⟩
def d_is_relation_value : He.DefD := ⟨("is_relation_value", none), "is_relation_value", "is_relation_value", defArgs (top 14), defBody (top 14), defScope (top 14), [], []⟩
def d_want_relation : He.DefD := ⟨("want_relation", none), "want_relation", "want_relation", defArgs (top 15), defBody (top 15), defScope (top 15), [], []⟩
def d_want_lot : He.DefD := ⟨("want_lot", none), "want_lot", "want_lot", defArgs (top 16), defBody (top 16), defScope (top 16), [], []⟩
def d_by_rule : He.DefD := ⟨("by_rule", none), "by_rule", "by_rule", defArgs (top 17), defBody (top 17), defScope (top 17), [], []⟩
def d_turned_of : He.DefD := ⟨("turned_of", none), "turned_of", "turned_of", defArgs (top 18), defBody (top 18), defScope (top 18), [], []⟩
def d_lot_of_all : He.DefD := ⟨("lot_of_all", none), "lot_of_all", "lot_of_all", defArgs (top 19), defBody (top 19), defScope (top 19), [], []⟩
def d_turned : He.DefD := ⟨("turned", none), "turned", "turned", defArgs (top 20), defBody (top 20), defScope (top 20), [], []⟩
def d_are_two_lots : He.DefD := ⟨("are_two_lots", none), "are_two_lots", "are_two_lots", defArgs (top 22), defBody (top 22), defScope (top 22), [], []⟩
def d_is_block_value : He.DefD := ⟨("is_block_value", none), "is_block_value", "is_block_value", defArgs (top 23), defBody (top 23), defScope (top 23), [], []⟩
def d_is_couple_value : He.DefD := ⟨("is_couple_value", none), "is_couple_value", "is_couple_value", defArgs (top 24), defBody (top 24), defScope (top 24), [], []⟩
def d_want_couple : He.DefD := ⟨("want_couple", none), "want_couple", "want_couple", defArgs (top 25), defBody (top 25), defScope (top 25), [], []⟩
def d_lots_of : He.DefD := ⟨("lots_of", none), "lots_of", "lots_of", defArgs (top 26), defBody (top 26), defScope (top 26), [], []⟩
def d_shared_by : He.DefD := ⟨("shared_by", none), "shared_by", "shared_by", defArgs (top 27), defBody (top 27), defScope (top 27), [], []⟩
def d_standing_to : He.DefD := ⟨("standing_to", none), "standing_to", "standing_to", defArgs (top 28), defBody (top 28), defScope (top 28), [], []⟩
def d_couple_from : He.DefD := ⟨("couple_from", none), "couple_from", "couple_from", defArgs (top 29), defBody (top 29), defScope (top 29), [], []⟩
def d_couple_to : He.DefD := ⟨("couple_to", none), "couple_to", "couple_to", defArgs (top 30), defBody (top 30), defScope (top 30), [], []⟩
def d_all_couples : He.DefD := ⟨("all_couples", none), "all_couples", "all_couples", defArgs (top 31), defBody (top 31), defScope (top 31), [], []⟩
def d_all_greatest : He.DefD := ⟨("all_greatest", none), "all_greatest", "all_greatest", defArgs (top 32), defBody (top 32), defScope (top 32), [], []⟩
def d_is_greatest_block : He.DefD := ⟨("is_greatest_block", none), "is_greatest_block", "is_greatest_block", defArgs (top 33), defBody (top 33), defScope (top 33), [], []⟩
def d_is_closed_couple : He.DefD := ⟨("is_closed_couple", none), "is_closed_couple", "is_closed_couple", defArgs (top 34), defBody (top 34), defScope (top 34), [], []⟩
def d_many_full_blocks : He.DefD := ⟨("many_full_blocks", none), "many_full_blocks", "many_full_blocks", defArgs (top 35), defBody (top 35), defScope (top 35), [], []⟩
def d_greatest_blocks : He.DefD := ⟨("greatest_blocks", none), "greatest_blocks", "greatest_blocks", defArgs (top 36), defBody (top 36), defScope (top 36), [], []⟩
def d_closed_couples : He.DefD := ⟨("closed_couples", none), "closed_couples", "closed_couples", defArgs (top 37), defBody (top 37), defScope (top 37), [], []⟩
def d_widest_block : He.DefD := ⟨("widest_block", none), "widest_block", "widest_block", defArgs (top 38), defBody (top 38), defScope (top 38), [], []⟩
def d_block_from : He.DefD := ⟨("block_from", none), "block_from", "block_from", defArgs (top 39), defBody (top 39), defScope (top 39), [], []⟩
def d_block_to : He.DefD := ⟨("block_to", none), "block_to", "block_to", defArgs (top 40), defBody (top 40), defScope (top 40), [], []⟩
def d_couples_met : He.DefD := ⟨("couples_met", none), "couples_met", "couples_met", defArgs (top 41), defBody (top 41), defScope (top 41), [], []⟩
def d_couples_joined : He.DefD := ⟨("couples_joined", none), "couples_joined", "couples_joined", defArgs (top 42), defBody (top 42), defScope (top 42), [], []⟩
def d__law_pot : He.DefD := ⟨("_law_pot", none), "_law_pot", "_law_pot", defArgs (top 44), defBody (top 44), defScope (top 44), [], []⟩
def d__law_draw : He.DefD := ⟨("_law_draw", none), "_law_draw", "_law_draw", defArgs (top 45), defBody (top 45), defScope (top 45), [], []⟩
def d__law_pick : He.DefD := ⟨("_law_pick", none), "_law_pick", "_law_pick", defArgs (top 46), defBody (top 46), defScope (top 46), [], []⟩
def d__law_relation : He.DefD := ⟨("_law_relation", none), "_law_relation", "_law_relation", defArgs (top 47), defBody (top 47), defScope (top 47), [], []⟩
def d__law_pairs : He.DefD := ⟨("_law_pairs", none), "_law_pairs", "_law_pairs", defArgs (top 48), defBody (top 48), defScope (top 48), [], []⟩
def d__law_lots : He.DefD := ⟨("_law_lots", none), "_law_lots", "_law_lots", defArgs (top 49), defBody (top 49), defScope (top 49), [], []⟩
def d__law_common : He.DefD := ⟨("_law_common", none), "_law_common", "_law_common", defArgs (top 50), defBody (top 50), defScope (top 50), [], []⟩
def d__law_standing : He.DefD := ⟨("_law_standing", none), "_law_standing", "_law_standing", defArgs (top 51), defBody (top 51), defScope (top 51), [], []⟩
def d__law_is_whole : He.DefD := ⟨("_law_is_whole", none), "_law_is_whole", "_law_is_whole", defArgs (top 52), defBody (top 52), defScope (top 52), [], []⟩
def d__law_is_lot : He.DefD := ⟨("_law_is_lot", none), "_law_is_lot", "_law_is_lot", defArgs (top 53), defBody (top 53), defScope (top 53), [], []⟩
def d__law_are_lots : He.DefD := ⟨("_law_are_lots", none), "_law_are_lots", "_law_are_lots", defArgs (top 54), defBody (top 54), defScope (top 54), [], []⟩
def d__law_is_block : He.DefD := ⟨("_law_is_block", none), "_law_is_block", "_law_is_block", defArgs (top 55), defBody (top 55), defScope (top 55), [], []⟩
def d__law_turned : He.DefD := ⟨("_law_turned", none), "_law_turned", "_law_turned", defArgs (top 56), defBody (top 56), defScope (top 56), [], []⟩
def d__law_relation_right : He.DefD := ⟨("_law_relation_right", none), "_law_relation_right", "_law_relation_right", defArgs (top 57), defBody (top 57), defScope (top 57), [], []⟩
def d__law_lots_right : He.DefD := ⟨("_law_lots_right", none), "_law_lots_right", "_law_lots_right", defArgs (top 58), defBody (top 58), defScope (top 58), [], []⟩
def d_law : He.DefD := ⟨("law", none), "law", "law", defArgs (top 59), defBody (top 59), defScope (top 59), [], []⟩
def fn_0 : List He.DefD := [d_is_integer, d_is_within, d_is_tuple, d_are_rising, d_is_lot_of, d_is_relation_of, d_is_relation_value, d_want_relation, d_want_lot, d_by_rule, d_turned_of, d_lot_of_all, d_turned, d_are_two_lots, d_is_block_value, d_is_couple_value, d_want_couple, d_lots_of, d_shared_by, d_standing_to]
def fn_1 : List He.DefD := [d_couple_from, d_couple_to, d_all_couples, d_all_greatest, d_is_greatest_block, d_is_closed_couple, d_many_full_blocks, d_greatest_blocks, d_closed_couples, d_widest_block, d_block_from, d_block_to, d_couples_met, d_couples_joined, d__law_pot, d__law_draw, d__law_pick, d__law_relation, d__law_pairs, d__law_lots]
def fn_2 : List He.DefD := [d__law_common, d__law_standing, d__law_is_whole, d__law_is_lot, d__law_are_lots, d__law_is_block, d__law_turned, d__law_relation_right, d__law_lots_right, d_law]
def fn : List He.DefD := fn_0 ++ fn_1 ++ fn_2
def fa_0 : List He.Fa := [.glo "is_integer", .glo "is_within", .glo "is_tuple", .glo "are_rising", .glo "is_lot_of", .glo "is_relation_of", .glo "is_relation_value", .glo "want_relation", .glo "want_lot", .glo "by_rule", .glo "turned_of", .glo "lot_of_all", .glo "turned", .glo "are_two_lots", .glo "is_block_value", .glo "is_couple_value", .glo "want_couple", .glo "lots_of", .glo "shared_by", .glo "standing_to"]
def fa_1 : List He.Fa := [.glo "couple_from", .glo "couple_to", .glo "all_couples", .glo "all_greatest", .glo "is_greatest_block", .glo "is_closed_couple", .glo "many_full_blocks", .glo "greatest_blocks", .glo "closed_couples", .glo "widest_block", .glo "block_from", .glo "block_to", .glo "couples_met", .glo "couples_joined", .glo "_law_pot", .glo "_law_draw", .glo "_law_pick", .glo "_law_relation", .glo "_law_pairs", .glo "_law_lots"]
def fa_2 : List He.Fa := [.glo "_law_common", .glo "_law_standing", .glo "_law_is_whole", .glo "_law_is_lot", .glo "_law_are_lots", .glo "_law_is_block", .glo "_law_turned", .glo "_law_relation_right", .glo "_law_lots_right", .glo "law", .free "isinstance", .free "int", .free "bool", .free "tuple", .free "len", .free "all", .free "zip", .free "range", .free "enumerate", .free "sorted"]
def fa_3 : List He.Fa := [.free "set", .free "max", .free "abs", .free "divmod", .free "sum", .free "repr", .free "any", .free "list", .free "min", .int "MOST_THINGS" 6]
def fa : List He.Fa := fa_0 ++ fa_1 ++ fa_2 ++ fa_3
def tf : List He.Defn := [("turned_of", none)]
def loose_0 : List PySem.Str := ["is_integer", "is_within", "is_tuple", "are_rising", "is_lot_of", "WhomError", "InvalidRelation", "InvalidLot", "InvalidCouple", "MOST_THINGS", "is_relation_of", "is_relation_value", "want_relation", "want_lot", "by_rule", "turned_of", "lot_of_all", "turned", "are_two_lots", "is_block_value"]
def loose_1 : List PySem.Str := ["is_couple_value", "want_couple", "lots_of", "shared_by", "standing_to", "couple_from", "couple_to", "all_couples", "all_greatest", "is_greatest_block", "is_closed_couple", "many_full_blocks", "greatest_blocks", "closed_couples", "widest_block", "block_from", "block_to", "couples_met", "couples_joined", "_law_pot"]
def loose_2 : List PySem.Str := ["_law_draw", "_law_pick", "_law_relation", "_law_pairs", "_law_lots", "_law_common", "_law_standing", "_law_is_whole", "_law_is_lot", "_law_are_lots", "_law_is_block", "_law_turned", "_law_relation_right", "_law_lots_right"]
def loose : List PySem.Str := loose_0 ++ loose_1 ++ loose_2
abbrev R : PySem.W.OpenRow := PySem.W.OpenLaw.row PySem.Challenge.rw_pairsled_k71_whole_full_blocks_and_close
def ex (K : PySem.W.Frag) : Bool := decide ((tf.map fun p => (He.cT K p).2).Nodup)
abbrev hk : PySem.W.Hook := He.hookX 6 fa fn [] tf ex
def ob (s : PySem.W.SharedT) : He.AlX := He.obsX 6 fa fn [] tf ex (HandSHeadRun.getT s)
theorem ob_eq (s : PySem.W.SharedT) : ob s = hk.obs s.abs := He.obsX_eq (HandSHeadRun.getT_eq s)
theorem run (w : World) : HandSHeadRun.RunEq R (PySem.W.view R.prog [59]) hk ob 4000 loose w := by
  intro os
  kernel_rfl
end LawHd
end
section
set_option Elab.async false
set_option linter.all false
set_option maxRecDepth 100000
set_option maxHeartbeats 0
namespace Wk
open PySem PySem.Spec PyProof.Rows L2 LamX Dn
theorem u64 {A : Around} (h : A.units + 200 < cLine) : A.units + 64 < cLine := by omega
def lamN : List Str := ["turned_of"]
abbrev TbL (K : PySem.W.Frag) : List (Addr × Str) := lamN.map fun n => ((He.cT K (n, none)).2, (n ++ ".<locals>.") ++ "<lambda>")
structure Hb (K : PySem.W.Frag) (mg : Str → Option Value) (base : Heap) : Prop where
  tb : ∀ n ∈ lamN, TabB base mg (He.cT K (n, none)).1 (He.cT K (n, none)).2
structure Facts (K : PySem.W.Frag) (mg : Str → Option Value) : Prop where
  f_is_integer : ∃ fd, FunD K "is_integer" "is_integer" (defArgs (LawHd.top 1)) (defBody (LawHd.top 1)) (defScope (LawHd.top 1)) [] [] (He.ga K "is_integer") fd
  g_is_integer : mg "is_integer" = some (.ref (He.ga K "is_integer"))
  f_is_within : ∃ fd, FunD K "is_within" "is_within" (defArgs (LawHd.top 2)) (defBody (LawHd.top 2)) (defScope (LawHd.top 2)) [] [] (He.ga K "is_within") fd
  g_is_within : mg "is_within" = some (.ref (He.ga K "is_within"))
  f_is_tuple : ∃ fd, FunD K "is_tuple" "is_tuple" (defArgs (LawHd.top 3)) (defBody (LawHd.top 3)) (defScope (LawHd.top 3)) [] [] (He.ga K "is_tuple") fd
  g_is_tuple : mg "is_tuple" = some (.ref (He.ga K "is_tuple"))
  f_are_rising : ∃ fd, FunD K "are_rising" "are_rising" (defArgs (LawHd.top 4)) (defBody (LawHd.top 4)) (defScope (LawHd.top 4)) [] [] (He.ga K "are_rising") fd
  g_are_rising : mg "are_rising" = some (.ref (He.ga K "are_rising"))
  f_is_lot_of : ∃ fd, FunD K "is_lot_of" "is_lot_of" (defArgs (LawHd.top 5)) (defBody (LawHd.top 5)) (defScope (LawHd.top 5)) [] [] (He.ga K "is_lot_of") fd
  g_is_lot_of : mg "is_lot_of" = some (.ref (He.ga K "is_lot_of"))
  f_is_relation_of : ∃ fd, FunD K "is_relation_of" "is_relation_of" (defArgs (LawHd.top 13)) (defBody (LawHd.top 13)) (defScope (LawHd.top 13)) [] [] (He.ga K "is_relation_of") fd
  g_is_relation_of : mg "is_relation_of" = some (.ref (He.ga K "is_relation_of"))
  f_is_relation_value : ∃ fd, FunD K "is_relation_value" "is_relation_value" (defArgs (LawHd.top 14)) (defBody (LawHd.top 14)) (defScope (LawHd.top 14)) [] [] (He.ga K "is_relation_value") fd
  g_is_relation_value : mg "is_relation_value" = some (.ref (He.ga K "is_relation_value"))
  f_want_relation : ∃ fd, FunD K "want_relation" "want_relation" (defArgs (LawHd.top 15)) (defBody (LawHd.top 15)) (defScope (LawHd.top 15)) [] [] (He.ga K "want_relation") fd
  g_want_relation : mg "want_relation" = some (.ref (He.ga K "want_relation"))
  f_want_lot : ∃ fd, FunD K "want_lot" "want_lot" (defArgs (LawHd.top 16)) (defBody (LawHd.top 16)) (defScope (LawHd.top 16)) [] [] (He.ga K "want_lot") fd
  g_want_lot : mg "want_lot" = some (.ref (He.ga K "want_lot"))
  f_by_rule : ∃ fd, FunD K "by_rule" "by_rule" (defArgs (LawHd.top 17)) (defBody (LawHd.top 17)) (defScope (LawHd.top 17)) [] [] (He.ga K "by_rule") fd
  g_by_rule : mg "by_rule" = some (.ref (He.ga K "by_rule"))
  f_turned_of : ∃ fd, FunD K "turned_of" "turned_of" (defArgs (LawHd.top 18)) (defBody (LawHd.top 18)) (defScope (LawHd.top 18)) [] [] (He.ga K "turned_of") fd
  g_turned_of : mg "turned_of" = some (.ref (He.ga K "turned_of"))
  f_lot_of_all : ∃ fd, FunD K "lot_of_all" "lot_of_all" (defArgs (LawHd.top 19)) (defBody (LawHd.top 19)) (defScope (LawHd.top 19)) [] [] (He.ga K "lot_of_all") fd
  g_lot_of_all : mg "lot_of_all" = some (.ref (He.ga K "lot_of_all"))
  f_turned : ∃ fd, FunD K "turned" "turned" (defArgs (LawHd.top 20)) (defBody (LawHd.top 20)) (defScope (LawHd.top 20)) [] [] (He.ga K "turned") fd
  g_turned : mg "turned" = some (.ref (He.ga K "turned"))
  f_are_two_lots : ∃ fd, FunD K "are_two_lots" "are_two_lots" (defArgs (LawHd.top 22)) (defBody (LawHd.top 22)) (defScope (LawHd.top 22)) [] [] (He.ga K "are_two_lots") fd
  g_are_two_lots : mg "are_two_lots" = some (.ref (He.ga K "are_two_lots"))
  f_is_block_value : ∃ fd, FunD K "is_block_value" "is_block_value" (defArgs (LawHd.top 23)) (defBody (LawHd.top 23)) (defScope (LawHd.top 23)) [] [] (He.ga K "is_block_value") fd
  g_is_block_value : mg "is_block_value" = some (.ref (He.ga K "is_block_value"))
  f_shared_by : ∃ fd, FunD K "shared_by" "shared_by" (defArgs (LawHd.top 27)) (defBody (LawHd.top 27)) (defScope (LawHd.top 27)) [] [] (He.ga K "shared_by") fd
  g_shared_by : mg "shared_by" = some (.ref (He.ga K "shared_by"))
  f_standing_to : ∃ fd, FunD K "standing_to" "standing_to" (defArgs (LawHd.top 28)) (defBody (LawHd.top 28)) (defScope (LawHd.top 28)) [] [] (He.ga K "standing_to") fd
  g_standing_to : mg "standing_to" = some (.ref (He.ga K "standing_to"))
  f_is_couple_value : ∃ fd, FunD K "is_couple_value" "is_couple_value" (defArgs (LawHd.top 24)) (defBody (LawHd.top 24)) (defScope (LawHd.top 24)) [] [] (He.ga K "is_couple_value") fd
  g_is_couple_value : mg "is_couple_value" = some (.ref (He.ga K "is_couple_value"))
  f_want_couple : ∃ fd, FunD K "want_couple" "want_couple" (defArgs (LawHd.top 25)) (defBody (LawHd.top 25)) (defScope (LawHd.top 25)) [] [] (He.ga K "want_couple") fd
  g_want_couple : mg "want_couple" = some (.ref (He.ga K "want_couple"))
  f_lots_of : ∃ fd, FunD K "lots_of" "lots_of" (defArgs (LawHd.top 26)) (defBody (LawHd.top 26)) (defScope (LawHd.top 26)) [] [] (He.ga K "lots_of") fd
  g_lots_of : mg "lots_of" = some (.ref (He.ga K "lots_of"))
  f_couple_from : ∃ fd, FunD K "couple_from" "couple_from" (defArgs (LawHd.top 29)) (defBody (LawHd.top 29)) (defScope (LawHd.top 29)) [] [] (He.ga K "couple_from") fd
  g_couple_from : mg "couple_from" = some (.ref (He.ga K "couple_from"))
  f_couple_to : ∃ fd, FunD K "couple_to" "couple_to" (defArgs (LawHd.top 30)) (defBody (LawHd.top 30)) (defScope (LawHd.top 30)) [] [] (He.ga K "couple_to") fd
  g_couple_to : mg "couple_to" = some (.ref (He.ga K "couple_to"))
  f_all_couples : ∃ fd, FunD K "all_couples" "all_couples" (defArgs (LawHd.top 31)) (defBody (LawHd.top 31)) (defScope (LawHd.top 31)) [] [] (He.ga K "all_couples") fd
  g_all_couples : mg "all_couples" = some (.ref (He.ga K "all_couples"))
  f_all_greatest : ∃ fd, FunD K "all_greatest" "all_greatest" (defArgs (LawHd.top 32)) (defBody (LawHd.top 32)) (defScope (LawHd.top 32)) [] [] (He.ga K "all_greatest") fd
  g_all_greatest : mg "all_greatest" = some (.ref (He.ga K "all_greatest"))
  f_is_greatest_block : ∃ fd, FunD K "is_greatest_block" "is_greatest_block" (defArgs (LawHd.top 33)) (defBody (LawHd.top 33)) (defScope (LawHd.top 33)) [] [] (He.ga K "is_greatest_block") fd
  g_is_greatest_block : mg "is_greatest_block" = some (.ref (He.ga K "is_greatest_block"))
  f_is_closed_couple : ∃ fd, FunD K "is_closed_couple" "is_closed_couple" (defArgs (LawHd.top 34)) (defBody (LawHd.top 34)) (defScope (LawHd.top 34)) [] [] (He.ga K "is_closed_couple") fd
  g_is_closed_couple : mg "is_closed_couple" = some (.ref (He.ga K "is_closed_couple"))
  f_many_full_blocks : ∃ fd, FunD K "many_full_blocks" "many_full_blocks" (defArgs (LawHd.top 35)) (defBody (LawHd.top 35)) (defScope (LawHd.top 35)) [] [] (He.ga K "many_full_blocks") fd
  g_many_full_blocks : mg "many_full_blocks" = some (.ref (He.ga K "many_full_blocks"))
  f_greatest_blocks : ∃ fd, FunD K "greatest_blocks" "greatest_blocks" (defArgs (LawHd.top 36)) (defBody (LawHd.top 36)) (defScope (LawHd.top 36)) [] [] (He.ga K "greatest_blocks") fd
  g_greatest_blocks : mg "greatest_blocks" = some (.ref (He.ga K "greatest_blocks"))
  f_closed_couples : ∃ fd, FunD K "closed_couples" "closed_couples" (defArgs (LawHd.top 37)) (defBody (LawHd.top 37)) (defScope (LawHd.top 37)) [] [] (He.ga K "closed_couples") fd
  g_closed_couples : mg "closed_couples" = some (.ref (He.ga K "closed_couples"))
  f_widest_block : ∃ fd, FunD K "widest_block" "widest_block" (defArgs (LawHd.top 38)) (defBody (LawHd.top 38)) (defScope (LawHd.top 38)) [] [] (He.ga K "widest_block") fd
  g_widest_block : mg "widest_block" = some (.ref (He.ga K "widest_block"))
  f_block_from : ∃ fd, FunD K "block_from" "block_from" (defArgs (LawHd.top 39)) (defBody (LawHd.top 39)) (defScope (LawHd.top 39)) [] [] (He.ga K "block_from") fd
  g_block_from : mg "block_from" = some (.ref (He.ga K "block_from"))
  f_block_to : ∃ fd, FunD K "block_to" "block_to" (defArgs (LawHd.top 40)) (defBody (LawHd.top 40)) (defScope (LawHd.top 40)) [] [] (He.ga K "block_to") fd
  g_block_to : mg "block_to" = some (.ref (He.ga K "block_to"))
  f_couples_met : ∃ fd, FunD K "couples_met" "couples_met" (defArgs (LawHd.top 41)) (defBody (LawHd.top 41)) (defScope (LawHd.top 41)) [] [] (He.ga K "couples_met") fd
  g_couples_met : mg "couples_met" = some (.ref (He.ga K "couples_met"))
  f_couples_joined : ∃ fd, FunD K "couples_joined" "couples_joined" (defArgs (LawHd.top 42)) (defBody (LawHd.top 42)) (defScope (LawHd.top 42)) [] [] (He.ga K "couples_joined") fd
  g_couples_joined : mg "couples_joined" = some (.ref (He.ga K "couples_joined"))
  f__law_pot : ∃ fd, FunD K "_law_pot" "_law_pot" (defArgs (LawHd.top 44)) (defBody (LawHd.top 44)) (defScope (LawHd.top 44)) [] [] (He.ga K "_law_pot") fd
  g__law_pot : mg "_law_pot" = some (.ref (He.ga K "_law_pot"))
  f__law_draw : ∃ fd, FunD K "_law_draw" "_law_draw" (defArgs (LawHd.top 45)) (defBody (LawHd.top 45)) (defScope (LawHd.top 45)) [] [] (He.ga K "_law_draw") fd
  g__law_draw : mg "_law_draw" = some (.ref (He.ga K "_law_draw"))
  f__law_pick : ∃ fd, FunD K "_law_pick" "_law_pick" (defArgs (LawHd.top 46)) (defBody (LawHd.top 46)) (defScope (LawHd.top 46)) [] [] (He.ga K "_law_pick") fd
  g__law_pick : mg "_law_pick" = some (.ref (He.ga K "_law_pick"))
  f__law_relation : ∃ fd, FunD K "_law_relation" "_law_relation" (defArgs (LawHd.top 47)) (defBody (LawHd.top 47)) (defScope (LawHd.top 47)) [] [] (He.ga K "_law_relation") fd
  g__law_relation : mg "_law_relation" = some (.ref (He.ga K "_law_relation"))
  f__law_pairs : ∃ fd, FunD K "_law_pairs" "_law_pairs" (defArgs (LawHd.top 48)) (defBody (LawHd.top 48)) (defScope (LawHd.top 48)) [] [] (He.ga K "_law_pairs") fd
  g__law_pairs : mg "_law_pairs" = some (.ref (He.ga K "_law_pairs"))
  f__law_lots : ∃ fd, FunD K "_law_lots" "_law_lots" (defArgs (LawHd.top 49)) (defBody (LawHd.top 49)) (defScope (LawHd.top 49)) [] [] (He.ga K "_law_lots") fd
  g__law_lots : mg "_law_lots" = some (.ref (He.ga K "_law_lots"))
  f__law_common : ∃ fd, FunD K "_law_common" "_law_common" (defArgs (LawHd.top 50)) (defBody (LawHd.top 50)) (defScope (LawHd.top 50)) [] [] (He.ga K "_law_common") fd
  g__law_common : mg "_law_common" = some (.ref (He.ga K "_law_common"))
  f__law_standing : ∃ fd, FunD K "_law_standing" "_law_standing" (defArgs (LawHd.top 51)) (defBody (LawHd.top 51)) (defScope (LawHd.top 51)) [] [] (He.ga K "_law_standing") fd
  g__law_standing : mg "_law_standing" = some (.ref (He.ga K "_law_standing"))
  f__law_is_whole : ∃ fd, FunD K "_law_is_whole" "_law_is_whole" (defArgs (LawHd.top 52)) (defBody (LawHd.top 52)) (defScope (LawHd.top 52)) [] [] (He.ga K "_law_is_whole") fd
  g__law_is_whole : mg "_law_is_whole" = some (.ref (He.ga K "_law_is_whole"))
  f__law_is_lot : ∃ fd, FunD K "_law_is_lot" "_law_is_lot" (defArgs (LawHd.top 53)) (defBody (LawHd.top 53)) (defScope (LawHd.top 53)) [] [] (He.ga K "_law_is_lot") fd
  g__law_is_lot : mg "_law_is_lot" = some (.ref (He.ga K "_law_is_lot"))
  f__law_are_lots : ∃ fd, FunD K "_law_are_lots" "_law_are_lots" (defArgs (LawHd.top 54)) (defBody (LawHd.top 54)) (defScope (LawHd.top 54)) [] [] (He.ga K "_law_are_lots") fd
  g__law_are_lots : mg "_law_are_lots" = some (.ref (He.ga K "_law_are_lots"))
  f__law_is_block : ∃ fd, FunD K "_law_is_block" "_law_is_block" (defArgs (LawHd.top 55)) (defBody (LawHd.top 55)) (defScope (LawHd.top 55)) [] [] (He.ga K "_law_is_block") fd
  g__law_is_block : mg "_law_is_block" = some (.ref (He.ga K "_law_is_block"))
  f__law_turned : ∃ fd, FunD K "_law_turned" "_law_turned" (defArgs (LawHd.top 56)) (defBody (LawHd.top 56)) (defScope (LawHd.top 56)) [] [] (He.ga K "_law_turned") fd
  g__law_turned : mg "_law_turned" = some (.ref (He.ga K "_law_turned"))
  f__law_lots_right : ∃ fd, FunD K "_law_lots_right" "_law_lots_right" (defArgs (LawHd.top 58)) (defBody (LawHd.top 58)) (defScope (LawHd.top 58)) [] [] (He.ga K "_law_lots_right") fd
  g__law_lots_right : mg "_law_lots_right" = some (.ref (He.ga K "_law_lots_right"))
  f__law_relation_right : ∃ fd, FunD K "_law_relation_right" "_law_relation_right" (defArgs (LawHd.top 57)) (defBody (LawHd.top 57)) (defScope (LawHd.top 57)) [] [] (He.ga K "_law_relation_right") fd
  g__law_relation_right : mg "_law_relation_right" = some (.ref (He.ga K "_law_relation_right"))
  f_law : ∃ fd, FunD K "law" "law" (defArgs (LawHd.top 59)) (defBody (LawHd.top 59)) (defScope (LawHd.top 59)) [] [] (He.ga K "law") fd
  g_law : mg "law" = some (.ref (He.ga K "law"))
  b_isinstance : mg "isinstance" = none
  b_int : mg "int" = none
  b_bool : mg "bool" = none
  b_tuple : mg "tuple" = none
  b_len : mg "len" = none
  b_all : mg "all" = none
  b_zip : mg "zip" = none
  b_range : mg "range" = none
  b_enumerate : mg "enumerate" = none
  b_sorted : mg "sorted" = none
  b_set : mg "set" = none
  b_max : mg "max" = none
  b_abs : mg "abs" = none
  b_divmod : mg "divmod" = none
  b_sum : mg "sum" = none
  b_repr : mg "repr" = none
  b_any : mg "any" = none
  b_list : mg "list" = none
  b_min : mg "min" = none
  c_MOST_THINGS : ∃ t, mg "MOST_THINGS" = some (.int 6 t)
  tabD : (lamN.map fun n => (He.cT K (n, none)).2).Nodup
theorem Hb.mono {K : PySem.W.Frag} {mg : Str → Option Value} {base base' : Heap} (h : Hb K mg base) (k : ∀ b o, base.get? b = some o → base'.get? b = some o) : Hb K mg base' :=
  ⟨fun n hn => ⟨(h.tb n hn).code.keeps k, (h.tb n hn).bm.keeps k, (h.tb n hn).gP⟩⟩
theorem tab_one {α β : Type} [DecidableEq α] {f : β → α} : ∀ {l : List β} {a b : β}, (l.map f).Nodup → a ∈ l → b ∈ l → f a = f b → a = b
  | [], _, _, _, h, _, _ => by cases h
  | x :: l, a, b, hn, ha, hb, e => by
    rw [List.map_cons, List.nodup_cons] at hn
    by_cases ea : a = x
    · by_cases eb : b = x
      · rw [ea, eb]
      · exact absurd (List.mem_map.mpr ⟨b, (List.mem_cons.mp hb).resolve_left eb, by rw [← e, ea]⟩) hn.1
    · by_cases eb : b = x
      · exact absurd (List.mem_map.mpr ⟨a, (List.mem_cons.mp ha).resolve_left ea, by rw [e, eb]⟩) hn.1
      · exact tab_one hn.2 ((List.mem_cons.mp ha).resolve_left ea) ((List.mem_cons.mp hb).resolve_left eb) e
theorem Facts.tabU {K : PySem.W.Frag} {mg : Str → Option Value} (M : Facts K mg) (n : Str) (hn : n ∈ lamN) : ∀ p ∈ TbL K, p.1 = (He.cT K (n, none)).2 → p.2 = (n ++ ".<locals>.") ++ "<lambda>" := by
  intro p hp e
  obtain ⟨m, hm, rfl⟩ := List.mem_map.mp hp
  rw [tab_one M.tabD hm hn e]
section
variable {P : Program} {w : World} {K : PySem.W.Frag} {mg : Str → Option Value}
noncomputable def b_is_integer : Dn.Env → T Out := sRet (andA (isA "int" (vD 0)) (nA (isA "bool" (vD 0))))
noncomputable def d_is_integer : List AV → T AV := shut (runD 1 1 b_is_integer)
theorem q_is_integer : d_is_integer = runD 1 1 b_is_integer := shut_eq _
theorem s_is_integer : FnScope ["value"] ["value"] (defScope (LawHd.top 1)) := ⟨rfl, rfl, rfl, by decide +kernel, rfl, by decide +kernel, by decide +kernel⟩
theorem g_is_integer (M : Facts K mg) {base : Heap} (hb : Hb K mg base) : FnG P w K mg base (TbL K) (Cal P w K mg base (TbL K)) "is_integer" (LawHd.top 1) ["value"] 1 d_is_integer := by
  rw [q_is_integer]
  obtain ⟨fd, F⟩ := M.f_is_integer
  refine fn_g (N := ["value"]) F s_is_integer M.g_is_integer (by decide) (fun _ _ _ _ _ _ us hl => match us, hl with | [_], _ => rfl) fun cdv A outer s H hr hgd => ?_
  have hN : (["value"] : List Str).Nodup := s_is_integer.nd
  have hu := room200 hr
  unfold b_is_integer
  exact psd_one (psd_ret (pd_and (pd_isi (pb_var (pv 0)) (by exact rfl) M.b_isinstance (by exact rfl) M.b_int (by decide +kernel) kit_int) (pd_one (pd_not (pd_isi (pb_var (pv 0)) (by exact rfl) M.b_isinstance (by exact rfl) M.b_bool (by decide +kernel) kit_bool)))))
noncomputable def b_is_within : Dn.Env → T Out := sRet (andA (cal (calling 1 d_is_integer) (aC (vA 0) (a0))) (chA leD leD (vD 1) (vD 0) (vD 2)))
noncomputable def d_is_within : List AV → T AV := shut (runD 3 3 b_is_within)
theorem q_is_within : d_is_within = runD 3 3 b_is_within := shut_eq _
theorem s_is_within : FnScope ["value", "least", "most"] ["value", "least", "most"] (defScope (LawHd.top 2)) := ⟨rfl, rfl, rfl, by decide +kernel, rfl, by decide +kernel, by decide +kernel⟩
theorem g_is_within (M : Facts K mg) {base : Heap} (hb : Hb K mg base) : FnG P w K mg base (TbL K) (Cal P w K mg base (TbL K)) "is_within" (LawHd.top 2) ["value", "least", "most"] 2 d_is_within := by
  rw [q_is_within]
  obtain ⟨fd, F⟩ := M.f_is_within
  refine fn_g (N := ["value", "least", "most"]) F s_is_within M.g_is_within (by decide) (fun _ _ _ _ _ _ us hl => match us, hl with | [_, _, _], _ => rfl) fun cdv A outer s H hr hgd => ?_
  have hN : (["value", "least", "most"] : List Str).Nodup := s_is_within.nd
  have hu := room200 hr
  unfold b_is_within
  exact psd_one (psd_ret (pd_and (pg_call (g_is_integer M hb) (hr.mono (by decide)) hgd (by exact rfl) (pad_cons (pd_var (pv 0)) (pad_nil))) (pd_one (ptd_chain (Dn.OpR.or op_le (op_leD hu)) (Dn.OpR.or op_le (op_leD hu)) ok_ord ok_ord (pb_var (pv 1)) (pb_var (pv 0)) (pb_var (pv 2))))))
noncomputable def b_is_tuple : Dn.Env → T Out := sRet (andA (isA "tuple" (vD 0)) (bin eqA (oA (cal lenD (bC (vD 0) (b0)))) (vD 1)))
noncomputable def d_is_tuple : List AV → T AV := shut (runD 2 2 b_is_tuple)
theorem q_is_tuple : d_is_tuple = runD 2 2 b_is_tuple := shut_eq _
theorem s_is_tuple : FnScope ["value", "many"] ["value", "many"] (defScope (LawHd.top 3)) := ⟨rfl, rfl, rfl, by decide +kernel, rfl, by decide +kernel, by decide +kernel⟩
theorem g_is_tuple (M : Facts K mg) {base : Heap} (hb : Hb K mg base) : FnG P w K mg base (TbL K) (Cal P w K mg base (TbL K)) "is_tuple" (LawHd.top 3) ["value", "many"] 1 d_is_tuple := by
  rw [q_is_tuple]
  obtain ⟨fd, F⟩ := M.f_is_tuple
  refine fn_g (N := ["value", "many"]) F s_is_tuple M.g_is_tuple (by decide) (fun _ _ _ _ _ _ us hl => match us, hl with | [_, _], _ => rfl) fun cdv A outer s H hr hgd => ?_
  have hN : (["value", "many"] : List Str).Nodup := s_is_tuple.nd
  have hu := room200 hr
  unfold b_is_tuple
  exact psd_one (psd_ret (pd_and (pd_isi (pb_var (pv 0)) (by exact rfl) M.b_isinstance (by exact rfl) M.b_tuple (by decide +kernel) kit_tuple) (pd_one (pd_cmp (Dn.OpR.or op_eq (op_eqD (u64 hu))) ok_eqA (pb_of (pd_blt call_len_seq ok_len (by exact rfl) M.b_len (by decide +kernel) (pab_cons (pb_var (pv 0)) (pab_nil)))) (pb_var (pv 1)) rfl))))
noncomputable def c_are_rising_0 : Dn.Env → T AV := lcD [1, 2] (itZ (aC (vA 0) (aC (slA (vD 0) (oI (oA (kA (.int 1)))) (o0)) (a0)))) (tupG 2 (consG (gN 1) (consG (gN 2) (g0)))) (lcTest0) (bin ltD (vD 1) (vD 2))
noncomputable def b_are_rising : Dn.Env → T Out := sRet (cal allD (bC (oA (c_are_rising_0)) (b0)))
noncomputable def d_are_rising : List AV → T AV := shut (runD 1 3 b_are_rising)
theorem q_are_rising : d_are_rising = runD 1 3 b_are_rising := shut_eq _
theorem s_are_rising : FnScope ["values", "near", "far"] ["values"] (defScope (LawHd.top 4)) := ⟨rfl, rfl, rfl, by decide +kernel, rfl, by decide +kernel, by decide +kernel⟩
theorem g_are_rising (M : Facts K mg) {base : Heap} (hb : Hb K mg base) : FnG P w K mg base (TbL K) (Cal P w K mg base (TbL K)) "are_rising" (LawHd.top 4) ["values"] 1 d_are_rising := by
  rw [q_are_rising]
  obtain ⟨fd, F⟩ := M.f_are_rising
  refine fn_g (N := ["values", "near", "far"]) F s_are_rising M.g_are_rising (by decide) (fun _ _ _ _ _ _ us hl => match us, hl with | [_], _ => rfl) fun cdv A outer s H hr hgd => ?_
  have hN : (["values", "near", "far"] : List Str).Nodup := s_are_rising.nd
  have hu := room200 hr
  unfold b_are_rising
  exact psd_one (psd_ret (pd_blt (cr_all rfl) ok_bools (by exact rfl) M.b_all (by decide +kernel) (pab_cons (pb_of (pd_lc (own := [("near", 1), ("far", 2)]) (g := tupG 2 (consG (gN 1) (consG (gN 2) (g0)))) (t := lcTest0) (f := bin ltD (vD 1) (vD 2)) rfl hN (pid_zip (by exact rfl) M.b_zip (pad_cons (pd_var (pv 0)) (pad_cons (pd_slice (pb_var (pv 0)) (po_some' (pb_of (pd_int))) (po_none')) (pad_nil)))) (blkOk_by (by kernel_rfl)) (only_tup (only_cons (only_name) (only_cons (only_name) (only_nil)))) (fun _ _ _ _ _ => pgd_tup rfl (pgsd_cons (pgd_name (pg_name hN rfl (by first | exact Or.inl rfl | exact Or.inr rfl | exact Or.inr (Or.inl rfl) | exact Or.inr (Or.inr rfl)))) (pgsd_cons (pgd_name (pg_name hN rfl (by first | exact Or.inl rfl | exact Or.inr rfl | exact Or.inr (Or.inl rfl) | exact Or.inr (Or.inr rfl)))) (pgsd_nil)))) (fun _ _ _ _ _ => pts_d0) (fun _ _ _ _ _ => pd_cmp (Dn.OpR.or op_lt (op_ltD hu)) ok_ord (pb_var (pv 1)) (pb_var (pv 2)) rfl))) (pab_nil))))
noncomputable def c_is_lot_of_0 : Dn.Env → T AV := lcD [2] (itS (vA 0)) (gN 2) (lcTest0) (cal (calling 3 d_is_within) (aC (vA 2) (aC (kA (.int 0)) (aC (bin subD (vD 1) (oA (kA (.int 1)))) (a0)))))
noncomputable def b_is_lot_of : Dn.Env → T Out := sRet (andA (isA "tuple" (vD 0)) (andA (cal allD (bC (oA (c_is_lot_of_0)) (b0))) (cal (calling 1 d_are_rising) (aC (vA 0) (a0)))))
noncomputable def d_is_lot_of : List AV → T AV := shut (runD 2 3 b_is_lot_of)
theorem q_is_lot_of : d_is_lot_of = runD 2 3 b_is_lot_of := shut_eq _
theorem s_is_lot_of : FnScope ["value", "many", "one"] ["value", "many"] (defScope (LawHd.top 5)) := ⟨rfl, rfl, rfl, by decide +kernel, rfl, by decide +kernel, by decide +kernel⟩
theorem g_is_lot_of (M : Facts K mg) {base : Heap} (hb : Hb K mg base) : FnG P w K mg base (TbL K) (Cal P w K mg base (TbL K)) "is_lot_of" (LawHd.top 5) ["value", "many"] 3 d_is_lot_of := by
  rw [q_is_lot_of]
  obtain ⟨fd, F⟩ := M.f_is_lot_of
  refine fn_g (N := ["value", "many", "one"]) F s_is_lot_of M.g_is_lot_of (by decide) (fun _ _ _ _ _ _ us hl => match us, hl with | [_, _], _ => rfl) fun cdv A outer s H hr hgd => ?_
  have hN : (["value", "many", "one"] : List Str).Nodup := s_is_lot_of.nd
  have hu := room200 hr
  unfold b_is_lot_of
  exact psd_one (psd_ret (pd_and (pd_isi (pb_var (pv 0)) (by exact rfl) M.b_isinstance (by exact rfl) M.b_tuple (by decide +kernel) kit_tuple) (pd_and (pd_blt (cr_all rfl) ok_bools (by exact rfl) M.b_all (by decide +kernel) (pab_cons (pb_of (pd_lc (own := [("one", 2)]) (g := gN 2) (t := lcTest0) (f := cal (calling 3 d_is_within) (aC (vA 2) (aC (kA (.int 0)) (aC (bin subD (vD 1) (oA (kA (.int 1)))) (a0))))) rfl hN (pid_seq (pd_var (pv 0))) (blkOk_by (by kernel_rfl)) (only_name) (fun _ _ _ _ _ => pgd_name (pg_name hN rfl (by first | exact Or.inl rfl | exact Or.inr rfl | exact Or.inr (Or.inl rfl) | exact Or.inr (Or.inr rfl)))) (fun _ _ _ _ _ => pts_d0) (fun _ _ _ _ _ => pg_call (g_is_within M hb) (hr.mono (by decide)) hgd (by exact rfl) (pad_cons (pd_var (pv 2)) (pad_cons (pd_int) (pad_cons (pd_op op_sub ok_sub (pb_var (pv 1)) (pb_of (pd_int))) (pad_nil))))))) (pab_nil))) (pd_one (pg_call (g_are_rising M hb) (hr.mono (by decide)) hgd (by exact rfl) (pad_cons (pd_var (pv 0)) (pad_nil)))))))
noncomputable def c_is_relation_of_0 : Dn.Env → T AV := lcD [2] (itS (vA 1)) (gN 2) (lcTest0) (cal (calling 2 d_is_lot_of) (aC (vA 2) (aC (vA 0) (a0))))
noncomputable def b_is_relation_of : Dn.Env → T Out := sRet (andA (isA "tuple" (vD 1)) (andA (bin eqA (oA (cal lenD (bC (vD 1) (b0)))) (vD 0)) (cal allD (bC (oA (c_is_relation_of_0)) (b0)))))
noncomputable def d_is_relation_of : List AV → T AV := shut (runD 2 3 b_is_relation_of)
theorem q_is_relation_of : d_is_relation_of = runD 2 3 b_is_relation_of := shut_eq _
theorem s_is_relation_of : FnScope ["things", "value", "row"] ["things", "value"] (defScope (LawHd.top 13)) := ⟨rfl, rfl, rfl, by decide +kernel, rfl, by decide +kernel, by decide +kernel⟩
theorem g_is_relation_of (M : Facts K mg) {base : Heap} (hb : Hb K mg base) : FnG P w K mg base (TbL K) (Cal P w K mg base (TbL K)) "is_relation_of" (LawHd.top 13) ["things", "value"] 4 d_is_relation_of := by
  rw [q_is_relation_of]
  obtain ⟨fd, F⟩ := M.f_is_relation_of
  refine fn_g (N := ["things", "value", "row"]) F s_is_relation_of M.g_is_relation_of (by decide) (fun _ _ _ _ _ _ us hl => match us, hl with | [_, _], _ => rfl) fun cdv A outer s H hr hgd => ?_
  have hN : (["things", "value", "row"] : List Str).Nodup := s_is_relation_of.nd
  have hu := room200 hr
  unfold b_is_relation_of
  exact psd_one (psd_ret (pd_and (pd_isi (pb_var (pv 1)) (by exact rfl) M.b_isinstance (by exact rfl) M.b_tuple (by decide +kernel) kit_tuple) (pd_and (pd_cmp (Dn.OpR.or op_eq (op_eqD (u64 hu))) ok_eqA (pb_of (pd_blt call_len_seq ok_len (by exact rfl) M.b_len (by decide +kernel) (pab_cons (pb_var (pv 1)) (pab_nil)))) (pb_var (pv 0)) rfl) (pd_one (pd_blt (cr_all rfl) ok_bools (by exact rfl) M.b_all (by decide +kernel) (pab_cons (pb_of (pd_lc (own := [("row", 2)]) (g := gN 2) (t := lcTest0) (f := cal (calling 2 d_is_lot_of) (aC (vA 2) (aC (vA 0) (a0)))) rfl hN (pid_seq (pd_var (pv 1))) (blkOk_by (by kernel_rfl)) (only_name) (fun _ _ _ _ _ => pgd_name (pg_name hN rfl (by first | exact Or.inl rfl | exact Or.inr rfl | exact Or.inr (Or.inl rfl) | exact Or.inr (Or.inr rfl)))) (fun _ _ _ _ _ => pts_d0) (fun _ _ _ _ _ => pg_call (g_is_lot_of M hb) (hr.mono (by decide)) hgd (by exact rfl) (pad_cons (pd_var (pv 2)) (pad_cons (pd_var (pv 0)) (pad_nil)))))) (pab_nil)))))))
noncomputable def b_is_relation_value : Dn.Env → T Out := sRet (andA (isA "tuple" (vD 0)) (andA (chA leD leD (oA (kA (.int 1))) (oA (cal lenD (bC (vD 0) (b0)))) (oA (kA (.int 6)))) (cal (calling 2 d_is_relation_of) (aC (cal lenD (bC (vD 0) (b0))) (aC (vA 0) (a0))))))
noncomputable def d_is_relation_value : List AV → T AV := shut (runD 1 1 b_is_relation_value)
theorem q_is_relation_value : d_is_relation_value = runD 1 1 b_is_relation_value := shut_eq _
theorem s_is_relation_value : FnScope ["value"] ["value"] (defScope (LawHd.top 14)) := ⟨rfl, rfl, rfl, by decide +kernel, rfl, by decide +kernel, by decide +kernel⟩
theorem g_is_relation_value (M : Facts K mg) {base : Heap} (hb : Hb K mg base) : FnG P w K mg base (TbL K) (Cal P w K mg base (TbL K)) "is_relation_value" (LawHd.top 14) ["value"] 5 d_is_relation_value := by
  rw [q_is_relation_value]
  obtain ⟨fd, F⟩ := M.f_is_relation_value
  refine fn_g (N := ["value"]) F s_is_relation_value M.g_is_relation_value (by decide) (fun _ _ _ _ _ _ us hl => match us, hl with | [_], _ => rfl) fun cdv A outer s H hr hgd => ?_
  have hN : (["value"] : List Str).Nodup := s_is_relation_value.nd
  have hu := room200 hr
  unfold b_is_relation_value
  exact psd_one (psd_ret (pd_and (pd_isi (pb_var (pv 0)) (by exact rfl) M.b_isinstance (by exact rfl) M.b_tuple (by decide +kernel) kit_tuple) (pd_and (ptd_chain (Dn.OpR.or op_le (op_leD hu)) (Dn.OpR.or op_le (op_leD hu)) ok_ord ok_ord (pb_of (pd_int)) (pb_of (pd_blt call_len_seq ok_len (by exact rfl) M.b_len (by decide +kernel) (pab_cons (pb_var (pv 0)) (pab_nil)))) (pb_of (pd_gint rfl M.c_MOST_THINGS.choose_spec))) (pd_one (pg_call (g_is_relation_of M hb) (hr.mono (by decide)) hgd (by exact rfl) (pad_cons (pd_blt call_len_seq ok_len (by exact rfl) M.b_len (by decide +kernel) (pab_cons (pb_var (pv 0)) (pab_nil))) (pad_cons (pd_var (pv 0)) (pad_nil))))))))
noncomputable def b_want_relation : Dn.Env → T Out := ifD (tNot (tB (cal (calling 1 d_is_relation_value) (aC (vA 0) (a0))))) (sErr) (sNil)
noncomputable def d_want_relation : List AV → T AV := shut (runD 1 1 b_want_relation)
theorem q_want_relation : d_want_relation = runD 1 1 b_want_relation := shut_eq _
theorem s_want_relation : FnScope ["relation"] ["relation"] (defScope (LawHd.top 15)) := ⟨rfl, rfl, rfl, by decide +kernel, rfl, by decide +kernel, by decide +kernel⟩
theorem g_want_relation (M : Facts K mg) {base : Heap} (hb : Hb K mg base) : FnG P w K mg base (TbL K) (Cal P w K mg base (TbL K)) "want_relation" (LawHd.top 15) ["relation"] 6 d_want_relation := by
  rw [q_want_relation]
  obtain ⟨fd, F⟩ := M.f_want_relation
  refine fn_g (N := ["relation"]) F s_want_relation M.g_want_relation (by decide) (fun _ _ _ _ _ _ us hl => match us, hl with | [_], _ => rfl) fun cdv A outer s H hr hgd => ?_
  have hN : (["relation"] : List Str).Nodup := s_want_relation.nd
  have hu := room200 hr
  unfold b_want_relation
  exact psd_one (psd_if (ptd_not (ptd_val (pg_call (g_is_relation_value M hb) (hr.mono (by decide)) hgd (by exact rfl) (pad_cons (pd_var (pv 0)) (pad_nil))))) (psd_one (psd_never)) (psd_nil))
noncomputable def b_want_lot : Dn.Env → T Out := ifD (tNot (tB (cal (calling 2 d_is_lot_of) (aC (vA 1) (aC (cal lenD (bC (vD 0) (b0))) (a0)))))) (sErr) (sNil)
noncomputable def d_want_lot : List AV → T AV := shut (runD 2 2 b_want_lot)
theorem q_want_lot : d_want_lot = runD 2 2 b_want_lot := shut_eq _
theorem s_want_lot : FnScope ["relation", "lot"] ["relation", "lot"] (defScope (LawHd.top 16)) := ⟨rfl, rfl, rfl, by decide +kernel, rfl, by decide +kernel, by decide +kernel⟩
theorem g_want_lot (M : Facts K mg) {base : Heap} (hb : Hb K mg base) : FnG P w K mg base (TbL K) (Cal P w K mg base (TbL K)) "want_lot" (LawHd.top 16) ["relation", "lot"] 4 d_want_lot := by
  rw [q_want_lot]
  obtain ⟨fd, F⟩ := M.f_want_lot
  refine fn_g (N := ["relation", "lot"]) F s_want_lot M.g_want_lot (by decide) (fun _ _ _ _ _ _ us hl => match us, hl with | [_, _], _ => rfl) fun cdv A outer s H hr hgd => ?_
  have hN : (["relation", "lot"] : List Str).Nodup := s_want_lot.nd
  have hu := room200 hr
  unfold b_want_lot
  exact psd_one (psd_if (ptd_not (ptd_val (pg_call (g_is_lot_of M hb) (hr.mono (by decide)) hgd (by exact rfl) (pad_cons (pd_var (pv 1)) (pad_cons (pd_blt call_len_seq ok_len (by exact rfl) M.b_len (by decide +kernel) (pab_cons (pb_var (pv 0)) (pab_nil))) (pad_nil)))))) (psd_one (psd_never)) (psd_nil))
noncomputable def c_by_rule_0 : Dn.Env → T AV := lcD [2] (itR (vD 0)) (gN 2) (tB (callV 1 (aC (vA 3) (aC (vA 2) (a0))))) (vA 2)
noncomputable def c_by_rule_1 : Dn.Env → T AV := lcD [3] (itR (vD 0)) (gN 3) (lcTest0) (cal tupleD (bC (oA (c_by_rule_0)) (b0)))
noncomputable def b_by_rule : Dn.Env → T Out := sRet (cal tupleD (bC (oA (c_by_rule_1)) (b0)))
noncomputable def d_by_rule : List AV → T AV := shut (runD 2 4 b_by_rule)
theorem q_by_rule : d_by_rule = runD 2 4 b_by_rule := shut_eq _
theorem s_by_rule : FnScope ["things", "rule", "late", "one"] ["things", "rule"] (defScope (LawHd.top 17)) := ⟨rfl, rfl, rfl, by decide +kernel, rfl, by decide +kernel, by decide +kernel⟩
theorem g_by_rule (M : Facts K mg) {base : Heap} (hb : Hb K mg base) : FnG P w K mg base (TbL K) (Cal P w K mg base (TbL K)) "by_rule" (LawHd.top 17) ["things", "rule"] 25 d_by_rule := by
  rw [q_by_rule]
  obtain ⟨fd, F⟩ := M.f_by_rule
  refine fn_g (N := ["things", "rule", "late", "one"]) F s_by_rule M.g_by_rule (by decide) (fun _ _ _ _ _ _ us hl => match us, hl with | [_, _], _ => rfl) fun cdv A outer s H hr hgd => ?_
  have hN : (["things", "rule", "late", "one"] : List Str).Nodup := s_by_rule.nd
  have hu := room200 hr
  unfold b_by_rule
  exact psd_one (psd_ret (pd_ty call_tuple_of ok_tuple (by exact rfl) M.b_tuple (by decide +kernel) (pab_cons (pb_of (pd_lc (own := [("one", 3)]) (g := gN 3) (t := lcTest0) (f := cal tupleD (bC (oA (c_by_rule_0)) (b0))) rfl hN (pid_range1 (by exact rfl) M.b_range (pb_var (pv 0))) (blkOk_by (by kernel_rfl)) (only_name) (fun _ _ _ _ _ => pgd_name (pg_name hN rfl (by first | exact Or.inl rfl | exact Or.inr rfl | exact Or.inr (Or.inl rfl) | exact Or.inr (Or.inr rfl)))) (fun _ _ _ _ _ => pts_d0) (fun _ _ _ _ _ => pd_ty call_tuple_of ok_tuple (by exact rfl) M.b_tuple (by decide +kernel) (pab_cons (pb_of (pd_lc (own := [("late", 2)]) (g := gN 2) (t := tB (callV 1 (aC (vA 3) (aC (vA 2) (a0))))) (f := vA 2) rfl hN (pid_range1 (by exact rfl) M.b_range (pb_var (pv 0))) (blkOk_by (by kernel_rfl)) (only_name) (fun _ _ _ _ _ => pgd_name (pg_name hN rfl (by first | exact Or.inl rfl | exact Or.inr rfl | exact Or.inr (Or.inl rfl) | exact Or.inr (Or.inr rfl)))) (fun _ _ _ _ _ => pts_d1 (ptd_val (pd_callV (hr.mono (by decide)) hgd (pad_cons (pd_var (pv 3)) (pad_cons (pd_var (pv 2)) (pad_nil))) rfl (by first | exact Or.inl rfl | exact Or.inr rfl | exact Or.inr (Or.inl rfl) | exact Or.inr (Or.inr rfl))))) (fun _ _ _ _ _ => pd_var (pv 2)))) (pab_nil))))) (pab_nil))))
noncomputable def l_turned_of_0 : Dn.Env → T AV := bin (memD id) (vD 0) (oA (bin ixD (vD 2) (vD 1)))
noncomputable def b_turned_of : Dn.Env → T Out := sRet (lamA 2 d_by_rule 2 [0] 3 l_turned_of_0 (cal lenD (bC (vD 0) (b0))))
noncomputable def d_turned_of : List AV → T AV := shut (runD 1 1 b_turned_of)
theorem q_turned_of : d_turned_of = runD 1 1 b_turned_of := shut_eq _
theorem s_turned_of : FnScope ["relation"] ["relation"] (defScope (LawHd.top 18)) := ⟨rfl, rfl, rfl, by decide +kernel, rfl, by decide +kernel, by decide +kernel⟩
theorem g_turned_of (M : Facts K mg) {base : Heap} (hb : Hb K mg base) : FnG P w K mg base (TbL K) (Cal P w K mg base (TbL K)) "turned_of" (LawHd.top 18) ["relation"] 26 d_turned_of := by
  rw [q_turned_of]
  obtain ⟨fd, F⟩ := M.f_turned_of
  refine fn_gc (N := ["relation"]) F s_turned_of M.g_turned_of (by decide) (fun _ _ _ _ _ _ us hl => match us, hl with | [_], _ => rfl) fun A outer s H hr hgd => ?_
  have hN : (["relation"] : List Str).Nodup := s_turned_of.nd
  have hu := room200 hr
  unfold b_turned_of
  exact psd_one (psd_ret (pd_lamcall (xs := ["things", "rule"]) (ps := ["one", "late"]) (fr := ["relation"]) (N := ["one", "late", "relation"]) (js := [0]) (fb := l_turned_of_0) (c := (He.cT K ("turned_of", none)).1) (P := (He.cT K ("turned_of", none)).2) (fun b' hb' => g_by_rule M (hb.mono hb')) rfl (hr.mono (by decide)) hgd (by exact rfl) (pd_blt call_len_seq ok_len (by exact rfl) M.b_len (by decide +kernel) (pab_cons (pb_var (pv 0)) (pab_nil)))
        (hb.tb _ (by decide)) rfl (List.mem_map.mpr ⟨"turned_of", by decide, rfl⟩) (M.tabU "turned_of" (by decide)) rfl (NdefX.nscope_by (by decide +kernel)) (NdefX.ndef_free (fr := ["relation"]) (by kernel_rfl)) (NdefX.ndef_fr (sc := defScope (LawHd.top 18)) (by kernel_rfl)) rfl (fun _ => rfl)
        (fun _ _ _ _ _ us hl => match us, hl with | [_, _], _ => rfl)
        (fun b' hb' f c' A outer s H hr hgd => by
          have hb := hb.mono hb'
          have hN : (["one", "late", "relation"] : List Str).Nodup := by decide +kernel
          have hu := room200 hr
          unfold l_turned_of_0
          exact pd_cmp (op_inA hu) ok_mem (pb_var (pv 0)) (pb_of (pd_ix ix_seq ok_ix (pb_var (pv 2)) (pb_var (pv 1)) (by intro _ _; rfl))) rfl)))
noncomputable def c_lot_of_all_0 : Dn.Env → T AV := lcD [3] (itS (vA 1)) (gN 3) (lcTest0) (bin (memD id) (vD 2) (oA (bin ixD (vD 0) (vD 3))))
noncomputable def c_lot_of_all_1 : Dn.Env → T AV := lcD [2] (itR (oA (cal lenD (bC (vD 0) (b0))))) (gN 2) (tB (cal allD (bC (oA (c_lot_of_all_0)) (b0)))) (vA 2)
noncomputable def b_lot_of_all : Dn.Env → T Out := seqD (sEx (cal (calling 1 d_want_relation) (aC (vA 0) (a0)))) (seqD (sEx (cal (calling 2 d_want_lot) (aC (vA 0) (aC (vA 1) (a0))))) (sRet (cal tupleD (bC (oA (c_lot_of_all_1)) (b0)))))
noncomputable def d_lot_of_all : List AV → T AV := shut (runD 2 4 b_lot_of_all)
theorem q_lot_of_all : d_lot_of_all = runD 2 4 b_lot_of_all := shut_eq _
theorem s_lot_of_all : FnScope ["relation", "lot", "late", "one"] ["relation", "lot"] (defScope (LawHd.top 19)) := ⟨rfl, rfl, rfl, by decide +kernel, rfl, by decide +kernel, by decide +kernel⟩
theorem g_lot_of_all (M : Facts K mg) {base : Heap} (hb : Hb K mg base) : FnG P w K mg base (TbL K) (Cal P w K mg base (TbL K)) "lot_of_all" (LawHd.top 19) ["relation", "lot"] 7 d_lot_of_all := by
  rw [q_lot_of_all]
  obtain ⟨fd, F⟩ := M.f_lot_of_all
  refine fn_g (N := ["relation", "lot", "late", "one"]) F s_lot_of_all M.g_lot_of_all (by decide) (fun _ _ _ _ _ _ us hl => match us, hl with | [_, _], _ => rfl) fun cdv A outer s H hr hgd => ?_
  have hN : (["relation", "lot", "late", "one"] : List Str).Nodup := s_lot_of_all.nd
  have hu := room200 hr
  unfold b_lot_of_all
  exact psd_cons (psd_expr (pg_call (g_want_relation M hb) (hr.mono (by decide)) hgd (by exact rfl) (pad_cons (pd_var (pv 0)) (pad_nil))))
      (psd_cons (psd_expr (pg_call (g_want_lot M hb) (hr.mono (by decide)) hgd (by exact rfl) (pad_cons (pd_var (pv 0)) (pad_cons (pd_var (pv 1)) (pad_nil)))))
      (psd_one (psd_ret (pd_ty call_tuple_of ok_tuple (by exact rfl) M.b_tuple (by decide +kernel) (pab_cons (pb_of (pd_lc (own := [("late", 2)]) (g := gN 2) (t := tB (cal allD (bC (oA (c_lot_of_all_0)) (b0)))) (f := vA 2) rfl hN (pid_range1 (by exact rfl) M.b_range (pb_of (pd_blt call_len_seq ok_len (by exact rfl) M.b_len (by decide +kernel) (pab_cons (pb_var (pv 0)) (pab_nil))))) (blkOk_by (by kernel_rfl)) (only_name) (fun _ _ _ _ _ => pgd_name (pg_name hN rfl (by first | exact Or.inl rfl | exact Or.inr rfl | exact Or.inr (Or.inl rfl) | exact Or.inr (Or.inr rfl)))) (fun _ _ _ _ _ => pts_d1 (ptd_val (pd_blt (cr_all rfl) ok_bools (by exact rfl) M.b_all (by decide +kernel) (pab_cons (pb_of (pd_lc (own := [("one", 3)]) (g := gN 3) (t := lcTest0) (f := bin (memD id) (vD 2) (oA (bin ixD (vD 0) (vD 3)))) rfl hN (pid_seq (pd_var (pv 1))) (blkOk_by (by kernel_rfl)) (only_name) (fun _ _ _ _ _ => pgd_name (pg_name hN rfl (by first | exact Or.inl rfl | exact Or.inr rfl | exact Or.inr (Or.inl rfl) | exact Or.inr (Or.inr rfl)))) (fun _ _ _ _ _ => pts_d0) (fun _ _ _ _ _ => pd_cmp (op_inA hu) ok_mem (pb_var (pv 2)) (pb_of (pd_ix ix_seq ok_ix (pb_var (pv 0)) (pb_var (pv 3)) (by intro _ _; rfl))) rfl))) (pab_nil))))) (fun _ _ _ _ _ => pd_var (pv 2)))) (pab_nil))))))
noncomputable def b_turned : Dn.Env → T Out := seqD (sEx (cal (calling 1 d_want_relation) (aC (vA 0) (a0)))) (sRet (cal (calling 1 d_turned_of) (aC (vA 0) (a0))))
noncomputable def d_turned : List AV → T AV := shut (runD 1 1 b_turned)
theorem q_turned : d_turned = runD 1 1 b_turned := shut_eq _
theorem s_turned : FnScope ["relation"] ["relation"] (defScope (LawHd.top 20)) := ⟨rfl, rfl, rfl, by decide +kernel, rfl, by decide +kernel, by decide +kernel⟩
theorem g_turned (M : Facts K mg) {base : Heap} (hb : Hb K mg base) : FnG P w K mg base (TbL K) (Cal P w K mg base (TbL K)) "turned" (LawHd.top 20) ["relation"] 27 d_turned := by
  rw [q_turned]
  obtain ⟨fd, F⟩ := M.f_turned
  refine fn_g (N := ["relation"]) F s_turned M.g_turned (by decide) (fun _ _ _ _ _ _ us hl => match us, hl with | [_], _ => rfl) fun cdv A outer s H hr hgd => ?_
  have hN : (["relation"] : List Str).Nodup := s_turned.nd
  have hu := room200 hr
  unfold b_turned
  exact psd_cons (psd_expr (pg_call (g_want_relation M hb) (hr.mono (by decide)) hgd (by exact rfl) (pad_cons (pd_var (pv 0)) (pad_nil))))
      (psd_one (psd_ret (pg_call (g_turned_of M hb) (hr.mono (by decide)) hgd (by exact rfl) (pad_cons (pd_var (pv 0)) (pad_nil)))))
noncomputable def b_are_two_lots : Dn.Env → T Out := sRet (andA (cal (calling 2 d_is_tuple) (aC (vA 1) (aC (kA (.int 2)) (a0)))) (andA (cal (calling 2 d_is_lot_of) (aC (bin ixD (vD 1) (oA (kA (.int 0)))) (aC (vA 0) (a0)))) (cal (calling 2 d_is_lot_of) (aC (bin ixD (vD 1) (oA (kA (.int 1)))) (aC (vA 0) (a0))))))
noncomputable def d_are_two_lots : List AV → T AV := shut (runD 2 2 b_are_two_lots)
theorem q_are_two_lots : d_are_two_lots = runD 2 2 b_are_two_lots := shut_eq _
theorem s_are_two_lots : FnScope ["things", "value"] ["things", "value"] (defScope (LawHd.top 22)) := ⟨rfl, rfl, rfl, by decide +kernel, rfl, by decide +kernel, by decide +kernel⟩
theorem g_are_two_lots (M : Facts K mg) {base : Heap} (hb : Hb K mg base) : FnG P w K mg base (TbL K) (Cal P w K mg base (TbL K)) "are_two_lots" (LawHd.top 22) ["things", "value"] 4 d_are_two_lots := by
  rw [q_are_two_lots]
  obtain ⟨fd, F⟩ := M.f_are_two_lots
  refine fn_g (N := ["things", "value"]) F s_are_two_lots M.g_are_two_lots (by decide) (fun _ _ _ _ _ _ us hl => match us, hl with | [_, _], _ => rfl) fun cdv A outer s H hr hgd => ?_
  have hN : (["things", "value"] : List Str).Nodup := s_are_two_lots.nd
  have hu := room200 hr
  unfold b_are_two_lots
  exact psd_one (psd_ret (pd_and (pg_call (g_is_tuple M hb) (hr.mono (by decide)) hgd (by exact rfl) (pad_cons (pd_var (pv 1)) (pad_cons (pd_int) (pad_nil)))) (pd_and (pg_call (g_is_lot_of M hb) (hr.mono (by decide)) hgd (by exact rfl) (pad_cons (pd_ix ix_seq ok_ix (pb_var (pv 1)) (pb_of (pd_int)) (by intro _ _; rfl)) (pad_cons (pd_var (pv 0)) (pad_nil)))) (pd_one (pg_call (g_is_lot_of M hb) (hr.mono (by decide)) hgd (by exact rfl) (pad_cons (pd_ix ix_seq ok_ix (pb_var (pv 1)) (pb_of (pd_int)) (by intro _ _; rfl)) (pad_cons (pd_var (pv 0)) (pad_nil))))))))
noncomputable def c_is_block_value_0 : Dn.Env → T AV := lcD [2] (itS (bin ixD (vD 1) (oA (kA (.int 1))))) (gN 2) (lcTest0) (bin (memD id) (vD 2) (oA (bin ixD (vD 0) (vD 3))))
noncomputable def c_is_block_value_1 : Dn.Env → T AV := lcD [3] (itS (bin ixD (vD 1) (oA (kA (.int 0))))) (gN 3) (lcTest0) (cal allD (bC (oA (c_is_block_value_0)) (b0)))
noncomputable def b_is_block_value : Dn.Env → T Out := seqD (ifD (tOr (tNot (tB (cal (calling 2 d_are_two_lots) (aC (cal lenD (bC (vD 0) (b0))) (aC (vA 1) (a0)))))) (tOr (tB (bin eqA (oA (bin ixD (vD 1) (oA (kA (.int 0))))) (oA (cal mkTup (a0))))) (tB (bin eqA (oA (bin ixD (vD 1) (oA (kA (.int 1))))) (oA (cal mkTup (a0))))))) (sRet (kA (.bool false))) (sNil)) (sRet (cal allD (bC (oA (c_is_block_value_1)) (b0))))
noncomputable def d_is_block_value : List AV → T AV := shut (runD 2 4 b_is_block_value)
theorem q_is_block_value : d_is_block_value = runD 2 4 b_is_block_value := shut_eq _
theorem s_is_block_value : FnScope ["relation", "value", "last", "one"] ["relation", "value"] (defScope (LawHd.top 23)) := ⟨rfl, rfl, rfl, by decide +kernel, rfl, by decide +kernel, by decide +kernel⟩
theorem g_is_block_value (M : Facts K mg) {base : Heap} (hb : Hb K mg base) : FnG P w K mg base (TbL K) (Cal P w K mg base (TbL K)) "is_block_value" (LawHd.top 23) ["relation", "value"] 5 d_is_block_value := by
  rw [q_is_block_value]
  obtain ⟨fd, F⟩ := M.f_is_block_value
  refine fn_g (N := ["relation", "value", "last", "one"]) F s_is_block_value M.g_is_block_value (by decide) (fun _ _ _ _ _ _ us hl => match us, hl with | [_, _], _ => rfl) fun cdv A outer s H hr hgd => ?_
  have hN : (["relation", "value", "last", "one"] : List Str).Nodup := s_is_block_value.nd
  have hu := room200 hr
  unfold b_is_block_value
  exact psd_cons (psd_if (PW.pt (pwd_or (ptd_not (ptd_val (pg_call (g_are_two_lots M hb) (hr.mono (by decide)) hgd (by exact rfl) (pad_cons (pd_blt call_len_seq ok_len (by exact rfl) M.b_len (by decide +kernel) (pab_cons (pb_var (pv 0)) (pab_nil))) (pad_cons (pd_var (pv 1)) (pad_nil)))))) (pwd_or (ptd_cmp (Dn.OpR.or op_eq (op_eqD (u64 hu))) ok_eqA (pb_of (pd_ix ix_seq ok_ix (pb_var (pv 1)) (pb_of (pd_int)) (by intro _ _; rfl))) (pb_of (pd_tup (pad_nil))) rfl) (pwd_or1 (ptd_cmp (Dn.OpR.or op_eq (op_eqD (u64 hu))) ok_eqA (pb_of (pd_ix ix_seq ok_ix (pb_var (pv 1)) (pb_of (pd_int)) (by intro _ _; rfl))) (pb_of (pd_tup (pad_nil))) rfl))))) (psd_one (psd_ret (pd_bl))) (psd_nil))
      (psd_one (psd_ret (pd_blt (cr_all rfl) ok_bools (by exact rfl) M.b_all (by decide +kernel) (pab_cons (pb_of (pd_lc (own := [("one", 3)]) (g := gN 3) (t := lcTest0) (f := cal allD (bC (oA (c_is_block_value_0)) (b0))) rfl hN (pid_seq (pd_ix ix_seq ok_ix (pb_var (pv 1)) (pb_of (pd_int)) (by intro _ _; rfl))) (blkOk_by (by kernel_rfl)) (only_name) (fun _ _ _ _ _ => pgd_name (pg_name hN rfl (by first | exact Or.inl rfl | exact Or.inr rfl | exact Or.inr (Or.inl rfl) | exact Or.inr (Or.inr rfl)))) (fun _ _ _ _ _ => pts_d0) (fun _ _ _ _ _ => pd_blt (cr_all rfl) ok_bools (by exact rfl) M.b_all (by decide +kernel) (pab_cons (pb_of (pd_lc (own := [("last", 2)]) (g := gN 2) (t := lcTest0) (f := bin (memD id) (vD 2) (oA (bin ixD (vD 0) (vD 3)))) rfl hN (pid_seq (pd_ix ix_seq ok_ix (pb_var (pv 1)) (pb_of (pd_int)) (by intro _ _; rfl))) (blkOk_by (by kernel_rfl)) (only_name) (fun _ _ _ _ _ => pgd_name (pg_name hN rfl (by first | exact Or.inl rfl | exact Or.inr rfl | exact Or.inr (Or.inl rfl) | exact Or.inr (Or.inr rfl)))) (fun _ _ _ _ _ => pts_d0) (fun _ _ _ _ _ => pd_cmp (op_inA hu) ok_mem (pb_var (pv 2)) (pb_of (pd_ix ix_seq ok_ix (pb_var (pv 0)) (pb_var (pv 3)) (by intro _ _; rfl))) rfl))) (pab_nil))))) (pab_nil)))))
noncomputable def c_shared_by_0 : Dn.Env → T AV := lcD [3] (itS (vA 1)) (gN 3) (lcTest0) (bin (memD id) (vD 2) (oA (bin ixD (vD 0) (vD 3))))
noncomputable def c_shared_by_1 : Dn.Env → T AV := lcD [2] (itR (oA (cal lenD (bC (vD 0) (b0))))) (gN 2) (tB (cal allD (bC (oA (c_shared_by_0)) (b0)))) (vA 2)
noncomputable def b_shared_by : Dn.Env → T Out := sRet (cal tupleD (bC (oA (c_shared_by_1)) (b0)))
noncomputable def d_shared_by : List AV → T AV := shut (runD 2 4 b_shared_by)
theorem q_shared_by : d_shared_by = runD 2 4 b_shared_by := shut_eq _
theorem s_shared_by : FnScope ["relation", "lot", "last", "one"] ["relation", "lot"] (defScope (LawHd.top 27)) := ⟨rfl, rfl, rfl, by decide +kernel, rfl, by decide +kernel, by decide +kernel⟩
theorem g_shared_by (M : Facts K mg) {base : Heap} (hb : Hb K mg base) : FnG P w K mg base (TbL K) (Cal P w K mg base (TbL K)) "shared_by" (LawHd.top 27) ["relation", "lot"] 1 d_shared_by := by
  rw [q_shared_by]
  obtain ⟨fd, F⟩ := M.f_shared_by
  refine fn_g (N := ["relation", "lot", "last", "one"]) F s_shared_by M.g_shared_by (by decide) (fun _ _ _ _ _ _ us hl => match us, hl with | [_, _], _ => rfl) fun cdv A outer s H hr hgd => ?_
  have hN : (["relation", "lot", "last", "one"] : List Str).Nodup := s_shared_by.nd
  have hu := room200 hr
  unfold b_shared_by
  exact psd_one (psd_ret (pd_ty call_tuple_of ok_tuple (by exact rfl) M.b_tuple (by decide +kernel) (pab_cons (pb_of (pd_lc (own := [("last", 2)]) (g := gN 2) (t := tB (cal allD (bC (oA (c_shared_by_0)) (b0)))) (f := vA 2) rfl hN (pid_range1 (by exact rfl) M.b_range (pb_of (pd_blt call_len_seq ok_len (by exact rfl) M.b_len (by decide +kernel) (pab_cons (pb_var (pv 0)) (pab_nil))))) (blkOk_by (by kernel_rfl)) (only_name) (fun _ _ _ _ _ => pgd_name (pg_name hN rfl (by first | exact Or.inl rfl | exact Or.inr rfl | exact Or.inr (Or.inl rfl) | exact Or.inr (Or.inr rfl)))) (fun _ _ _ _ _ => pts_d1 (ptd_val (pd_blt (cr_all rfl) ok_bools (by exact rfl) M.b_all (by decide +kernel) (pab_cons (pb_of (pd_lc (own := [("one", 3)]) (g := gN 3) (t := lcTest0) (f := bin (memD id) (vD 2) (oA (bin ixD (vD 0) (vD 3)))) rfl hN (pid_seq (pd_var (pv 1))) (blkOk_by (by kernel_rfl)) (only_name) (fun _ _ _ _ _ => pgd_name (pg_name hN rfl (by first | exact Or.inl rfl | exact Or.inr rfl | exact Or.inr (Or.inl rfl) | exact Or.inr (Or.inr rfl)))) (fun _ _ _ _ _ => pts_d0) (fun _ _ _ _ _ => pd_cmp (op_inA hu) ok_mem (pb_var (pv 2)) (pb_of (pd_ix ix_seq ok_ix (pb_var (pv 0)) (pb_var (pv 3)) (by intro _ _; rfl))) rfl))) (pab_nil))))) (fun _ _ _ _ _ => pd_var (pv 2)))) (pab_nil))))
noncomputable def c_standing_to_0 : Dn.Env → T AV := lcD [4] (itS (vA 1)) (gN 4) (lcTest0) (bin (memD id) (vD 4) (vD 3))
noncomputable def c_standing_to_1 : Dn.Env → T AV := lcD [2, 3] (itE2 (aC (vA 0) (a0))) (tupG 2 (consG (gN 2) (consG (gN 3) (g0)))) (tB (cal allD (bC (oA (c_standing_to_0)) (b0)))) (vA 2)
noncomputable def b_standing_to : Dn.Env → T Out := sRet (cal tupleD (bC (oA (c_standing_to_1)) (b0)))
noncomputable def d_standing_to : List AV → T AV := shut (runD 2 5 b_standing_to)
theorem q_standing_to : d_standing_to = runD 2 5 b_standing_to := shut_eq _
theorem s_standing_to : FnScope ["relation", "lot", "one", "row", "last"] ["relation", "lot"] (defScope (LawHd.top 28)) := ⟨rfl, rfl, rfl, by decide +kernel, rfl, by decide +kernel, by decide +kernel⟩
theorem g_standing_to (M : Facts K mg) {base : Heap} (hb : Hb K mg base) : FnG P w K mg base (TbL K) (Cal P w K mg base (TbL K)) "standing_to" (LawHd.top 28) ["relation", "lot"] 1 d_standing_to := by
  rw [q_standing_to]
  obtain ⟨fd, F⟩ := M.f_standing_to
  refine fn_g (N := ["relation", "lot", "one", "row", "last"]) F s_standing_to M.g_standing_to (by decide) (fun _ _ _ _ _ _ us hl => match us, hl with | [_, _], _ => rfl) fun cdv A outer s H hr hgd => ?_
  have hN : (["relation", "lot", "one", "row", "last"] : List Str).Nodup := s_standing_to.nd
  have hu := room200 hr
  unfold b_standing_to
  exact psd_one (psd_ret (pd_ty call_tuple_of ok_tuple (by exact rfl) M.b_tuple (by decide +kernel) (pab_cons (pb_of (pd_lc (own := [("one", 2), ("row", 3)]) (g := tupG 2 (consG (gN 2) (consG (gN 3) (g0)))) (t := tB (cal allD (bC (oA (c_standing_to_0)) (b0)))) (f := vA 2) rfl hN (pid_enum2 (by exact rfl) M.b_enumerate (pad_cons (pd_var (pv 0)) (pad_nil))) (blkOk_by (by kernel_rfl)) (only_tup (only_cons (only_name) (only_cons (only_name) (only_nil)))) (fun _ _ _ _ _ => pgd_tup rfl (pgsd_cons (pgd_name (pg_name hN rfl (by first | exact Or.inl rfl | exact Or.inr rfl | exact Or.inr (Or.inl rfl) | exact Or.inr (Or.inr rfl)))) (pgsd_cons (pgd_name (pg_name hN rfl (by first | exact Or.inl rfl | exact Or.inr rfl | exact Or.inr (Or.inl rfl) | exact Or.inr (Or.inr rfl)))) (pgsd_nil)))) (fun _ _ _ _ _ => pts_d1 (ptd_val (pd_blt (cr_all rfl) ok_bools (by exact rfl) M.b_all (by decide +kernel) (pab_cons (pb_of (pd_lc (own := [("last", 4)]) (g := gN 4) (t := lcTest0) (f := bin (memD id) (vD 4) (vD 3)) rfl hN (pid_seq (pd_var (pv 1))) (blkOk_by (by kernel_rfl)) (only_name) (fun _ _ _ _ _ => pgd_name (pg_name hN rfl (by first | exact Or.inl rfl | exact Or.inr rfl | exact Or.inr (Or.inl rfl) | exact Or.inr (Or.inr rfl)))) (fun _ _ _ _ _ => pts_d0) (fun _ _ _ _ _ => pd_cmp (op_inA hu) ok_mem (pb_var (pv 4)) (pb_var (pv 3)) rfl))) (pab_nil))))) (fun _ _ _ _ _ => pd_var (pv 2)))) (pab_nil))))
noncomputable def b_is_couple_value : Dn.Env → T Out := seqD (ifD (tNot (tB (cal (calling 2 d_are_two_lots) (aC (cal lenD (bC (vD 0) (b0))) (aC (vA 1) (a0)))))) (sRet (kA (.bool false))) (sNil)) (sRet (bin eqA (vD 1) (oA (cal mkTup (aC (cal (calling 2 d_standing_to) (aC (vA 0) (aC (bin ixD (vD 1) (oA (kA (.int 1)))) (a0)))) (aC (cal (calling 2 d_shared_by) (aC (vA 0) (aC (bin ixD (vD 1) (oA (kA (.int 0)))) (a0)))) (a0)))))))
noncomputable def d_is_couple_value : List AV → T AV := shut (runD 2 2 b_is_couple_value)
theorem q_is_couple_value : d_is_couple_value = runD 2 2 b_is_couple_value := shut_eq _
theorem s_is_couple_value : FnScope ["relation", "value"] ["relation", "value"] (defScope (LawHd.top 24)) := ⟨rfl, rfl, rfl, by decide +kernel, rfl, by decide +kernel, by decide +kernel⟩
theorem g_is_couple_value (M : Facts K mg) {base : Heap} (hb : Hb K mg base) : FnG P w K mg base (TbL K) (Cal P w K mg base (TbL K)) "is_couple_value" (LawHd.top 24) ["relation", "value"] 5 d_is_couple_value := by
  rw [q_is_couple_value]
  obtain ⟨fd, F⟩ := M.f_is_couple_value
  refine fn_g (N := ["relation", "value"]) F s_is_couple_value M.g_is_couple_value (by decide) (fun _ _ _ _ _ _ us hl => match us, hl with | [_, _], _ => rfl) fun cdv A outer s H hr hgd => ?_
  have hN : (["relation", "value"] : List Str).Nodup := s_is_couple_value.nd
  have hu := room200 hr
  unfold b_is_couple_value
  exact psd_cons (psd_if (ptd_not (ptd_val (pg_call (g_are_two_lots M hb) (hr.mono (by decide)) hgd (by exact rfl) (pad_cons (pd_blt call_len_seq ok_len (by exact rfl) M.b_len (by decide +kernel) (pab_cons (pb_var (pv 0)) (pab_nil))) (pad_cons (pd_var (pv 1)) (pad_nil)))))) (psd_one (psd_ret (pd_bl))) (psd_nil))
      (psd_one (psd_ret (pd_cmp (Dn.OpR.or op_eq (op_eqD (u64 hu))) ok_eqA (pb_var (pv 1)) (pb_of (pd_tup (pad_cons (pg_call (g_standing_to M hb) (hr.mono (by decide)) hgd (by exact rfl) (pad_cons (pd_var (pv 0)) (pad_cons (pd_ix ix_seq ok_ix (pb_var (pv 1)) (pb_of (pd_int)) (by intro _ _; rfl)) (pad_nil)))) (pad_cons (pg_call (g_shared_by M hb) (hr.mono (by decide)) hgd (by exact rfl) (pad_cons (pd_var (pv 0)) (pad_cons (pd_ix ix_seq ok_ix (pb_var (pv 1)) (pb_of (pd_int)) (by intro _ _; rfl)) (pad_nil)))) (pad_nil))))) rfl)))
noncomputable def b_want_couple : Dn.Env → T Out := ifD (tNot (tB (cal (calling 2 d_is_couple_value) (aC (vA 0) (aC (vA 1) (a0)))))) (sErr) (sNil)
noncomputable def d_want_couple : List AV → T AV := shut (runD 2 2 b_want_couple)
theorem q_want_couple : d_want_couple = runD 2 2 b_want_couple := shut_eq _
theorem s_want_couple : FnScope ["relation", "couple"] ["relation", "couple"] (defScope (LawHd.top 25)) := ⟨rfl, rfl, rfl, by decide +kernel, rfl, by decide +kernel, by decide +kernel⟩
theorem g_want_couple (M : Facts K mg) {base : Heap} (hb : Hb K mg base) : FnG P w K mg base (TbL K) (Cal P w K mg base (TbL K)) "want_couple" (LawHd.top 25) ["relation", "couple"] 6 d_want_couple := by
  rw [q_want_couple]
  obtain ⟨fd, F⟩ := M.f_want_couple
  refine fn_g (N := ["relation", "couple"]) F s_want_couple M.g_want_couple (by decide) (fun _ _ _ _ _ _ us hl => match us, hl with | [_, _], _ => rfl) fun cdv A outer s H hr hgd => ?_
  have hN : (["relation", "couple"] : List Str).Nodup := s_want_couple.nd
  have hu := room200 hr
  unfold b_want_couple
  exact psd_one (psd_if (ptd_not (ptd_val (pg_call (g_is_couple_value M hb) (hr.mono (by decide)) hgd (by exact rfl) (pad_cons (pd_var (pv 0)) (pad_cons (pd_var (pv 1)) (pad_nil)))))) (psd_one (psd_never)) (psd_nil))
noncomputable def c_lots_of_0 : Dn.Env → T AV := lcD [3] (itS (vA 1)) (gN 3) (lcTest0) (bin addD (vD 3) (oA (cal mkTup (aC (vA 2) (a0)))))
noncomputable def lb_lots_of_0 : Dn.Env → T Out := setD 1 (fzA (bin addD (vD 1) (oA (c_lots_of_0))))
noncomputable def b_lots_of : Dn.Env → T Out := seqD (setD 1 (fzA (cal mkLst (aC (cal mkTup (a0)) (a0))))) (seqD (forD (itR (vD 0)) (gN 2) (lb_lots_of_0)) (sRet (vA 1)))
noncomputable def d_lots_of : List AV → T AV := shut (runD 1 4 b_lots_of)
theorem q_lots_of : d_lots_of = runD 1 4 b_lots_of := shut_eq _
theorem s_lots_of : FnScope ["things", "found", "one", "lot"] ["things"] (defScope (LawHd.top 26)) := ⟨rfl, rfl, rfl, by decide +kernel, rfl, by decide +kernel, by decide +kernel⟩
theorem g_lots_of (M : Facts K mg) {base : Heap} (hb : Hb K mg base) : FnG P w K mg base (TbL K) (Cal P w K mg base (TbL K)) "lots_of" (LawHd.top 26) ["things"] 1 d_lots_of := by
  rw [q_lots_of]
  obtain ⟨fd, F⟩ := M.f_lots_of
  refine fn_g (N := ["things", "found", "one", "lot"]) F s_lots_of M.g_lots_of (by decide) (fun _ _ _ _ _ _ us hl => match us, hl with | [_], _ => rfl) fun cdv A outer s H hr hgd => ?_
  have hN : (["things", "found", "one", "lot"] : List Str).Nodup := s_lots_of.nd
  have hu := room200 hr
  unfold b_lots_of
  exact psd_cons (psd_set (ps_set hN rfl (by first | exact Or.inl rfl | exact Or.inr rfl | exact Or.inr (Or.inl rfl) | exact Or.inr (Or.inr rfl)) (pd_frz (pd_lst (pad_cons (pd_tup (pad_nil)) (pad_nil))))))
      (psd_cons (psd_for PassesOwn.never rfl (pid_range1 (by exact rfl) M.b_range (pb_var (pv 0))) (pgd_name (pg_name hN rfl (by first | exact Or.inl rfl | exact Or.inr rfl | exact Or.inr (Or.inl rfl) | exact Or.inr (Or.inr rfl)))) (psd_one (psd_set (ps_set hN rfl (by first | exact Or.inl rfl | exact Or.inr rfl | exact Or.inr (Or.inl rfl) | exact Or.inr (Or.inr rfl)) (pd_frz (pd_op op_addAll ok_add (pb_var (pv 1)) (pb_of (pd_lc (own := [("lot", 3)]) (g := gN 3) (t := lcTest0) (f := bin addD (vD 3) (oA (cal mkTup (aC (vA 2) (a0))))) rfl hN (pid_seq (pd_var (pv 1))) (blkOk_by (by kernel_rfl)) (only_name) (fun _ _ _ _ _ => pgd_name (pg_name hN rfl (by first | exact Or.inl rfl | exact Or.inr rfl | exact Or.inr (Or.inl rfl) | exact Or.inr (Or.inr rfl)))) (fun _ _ _ _ _ => pts_d0) (fun _ _ _ _ _ => pd_op op_addAll ok_add (pb_var (pv 3)) (pb_of (pd_tup (pad_cons (pd_var (pv 2)) (pad_nil)))))))))))))
      (psd_one (psd_ret (pd_var (pv 1)))))
noncomputable def b_couple_from : Dn.Env → T Out := seqD (setD 2 (fzA (cal (calling 2 d_shared_by) (aC (vA 0) (aC (vA 1) (a0)))))) (sRet (cal mkTup (aC (cal (calling 2 d_standing_to) (aC (vA 0) (aC (vA 2) (a0)))) (aC (vA 2) (a0)))))
noncomputable def d_couple_from : List AV → T AV := shut (runD 2 3 b_couple_from)
theorem q_couple_from : d_couple_from = runD 2 3 b_couple_from := shut_eq _
theorem s_couple_from : FnScope ["relation", "lot", "late"] ["relation", "lot"] (defScope (LawHd.top 29)) := ⟨rfl, rfl, rfl, by decide +kernel, rfl, by decide +kernel, by decide +kernel⟩
theorem g_couple_from (M : Facts K mg) {base : Heap} (hb : Hb K mg base) : FnG P w K mg base (TbL K) (Cal P w K mg base (TbL K)) "couple_from" (LawHd.top 29) ["relation", "lot"] 2 d_couple_from := by
  rw [q_couple_from]
  obtain ⟨fd, F⟩ := M.f_couple_from
  refine fn_g (N := ["relation", "lot", "late"]) F s_couple_from M.g_couple_from (by decide) (fun _ _ _ _ _ _ us hl => match us, hl with | [_, _], _ => rfl) fun cdv A outer s H hr hgd => ?_
  have hN : (["relation", "lot", "late"] : List Str).Nodup := s_couple_from.nd
  have hu := room200 hr
  unfold b_couple_from
  exact psd_cons (psd_set (ps_set hN rfl (by first | exact Or.inl rfl | exact Or.inr rfl | exact Or.inr (Or.inl rfl) | exact Or.inr (Or.inr rfl)) (pd_frz (pg_call (g_shared_by M hb) (hr.mono (by decide)) hgd (by exact rfl) (pad_cons (pd_var (pv 0)) (pad_cons (pd_var (pv 1)) (pad_nil)))))))
      (psd_one (psd_ret (pd_tup (pad_cons (pg_call (g_standing_to M hb) (hr.mono (by decide)) hgd (by exact rfl) (pad_cons (pd_var (pv 0)) (pad_cons (pd_var (pv 2)) (pad_nil)))) (pad_cons (pd_var (pv 2)) (pad_nil))))))
noncomputable def b_couple_to : Dn.Env → T Out := seqD (setD 2 (fzA (cal (calling 2 d_standing_to) (aC (vA 0) (aC (vA 1) (a0)))))) (sRet (cal mkTup (aC (vA 2) (aC (cal (calling 2 d_shared_by) (aC (vA 0) (aC (vA 2) (a0)))) (a0)))))
noncomputable def d_couple_to : List AV → T AV := shut (runD 2 3 b_couple_to)
theorem q_couple_to : d_couple_to = runD 2 3 b_couple_to := shut_eq _
theorem s_couple_to : FnScope ["relation", "lot", "first"] ["relation", "lot"] (defScope (LawHd.top 30)) := ⟨rfl, rfl, rfl, by decide +kernel, rfl, by decide +kernel, by decide +kernel⟩
theorem g_couple_to (M : Facts K mg) {base : Heap} (hb : Hb K mg base) : FnG P w K mg base (TbL K) (Cal P w K mg base (TbL K)) "couple_to" (LawHd.top 30) ["relation", "lot"] 2 d_couple_to := by
  rw [q_couple_to]
  obtain ⟨fd, F⟩ := M.f_couple_to
  refine fn_g (N := ["relation", "lot", "first"]) F s_couple_to M.g_couple_to (by decide) (fun _ _ _ _ _ _ us hl => match us, hl with | [_, _], _ => rfl) fun cdv A outer s H hr hgd => ?_
  have hN : (["relation", "lot", "first"] : List Str).Nodup := s_couple_to.nd
  have hu := room200 hr
  unfold b_couple_to
  exact psd_cons (psd_set (ps_set hN rfl (by first | exact Or.inl rfl | exact Or.inr rfl | exact Or.inr (Or.inl rfl) | exact Or.inr (Or.inr rfl)) (pd_frz (pg_call (g_standing_to M hb) (hr.mono (by decide)) hgd (by exact rfl) (pad_cons (pd_var (pv 0)) (pad_cons (pd_var (pv 1)) (pad_nil)))))))
      (psd_one (psd_ret (pd_tup (pad_cons (pd_var (pv 2)) (pad_cons (pg_call (g_shared_by M hb) (hr.mono (by decide)) hgd (by exact rfl) (pad_cons (pd_var (pv 0)) (pad_cons (pd_var (pv 2)) (pad_nil)))) (pad_nil))))))
noncomputable def c_all_couples_0 : Dn.Env → T AV := lcD [1] (itS (cal (calling 1 d_lots_of) (aC (cal lenD (bC (vD 0) (b0))) (a0)))) (gN 1) (lcTest0) (cal (calling 2 d_couple_from) (aC (vA 0) (aC (vA 1) (a0))))
noncomputable def b_all_couples : Dn.Env → T Out := sRet (cal sortSetX (oA (c_all_couples_0)))
noncomputable def d_all_couples : List AV → T AV := shut (runD 1 2 b_all_couples)
theorem q_all_couples : d_all_couples = runD 1 2 b_all_couples := shut_eq _
theorem s_all_couples : FnScope ["relation", "lot"] ["relation"] (defScope (LawHd.top 31)) := ⟨rfl, rfl, rfl, by decide +kernel, rfl, by decide +kernel, by decide +kernel⟩
theorem g_all_couples (M : Facts K mg) {base : Heap} (hb : Hb K mg base) : FnG P w K mg base (TbL K) (Cal P w K mg base (TbL K)) "all_couples" (LawHd.top 31) ["relation"] 3 d_all_couples := by
  rw [q_all_couples]
  obtain ⟨fd, F⟩ := M.f_all_couples
  refine fn_g (N := ["relation", "lot"]) F s_all_couples M.g_all_couples (by decide) (fun _ _ _ _ _ _ us hl => match us, hl with | [_], _ => rfl) fun cdv A outer s H hr hgd => ?_
  have hN : (["relation", "lot"] : List Str).Nodup := s_all_couples.nd
  have hu := room200 hr
  unfold b_all_couples
  exact psd_one (psd_ret (pd_sortSetX hu rfl (by exact rfl) M.b_sorted (by exact rfl) M.b_set (pb_of (pd_lc (own := [("lot", 1)]) (g := gN 1) (t := lcTest0) (f := cal (calling 2 d_couple_from) (aC (vA 0) (aC (vA 1) (a0)))) rfl hN (pid_seq (pg_call (g_lots_of M hb) (hr.mono (by decide)) hgd (by exact rfl) (pad_cons (pd_blt call_len_seq ok_len (by exact rfl) M.b_len (by decide +kernel) (pab_cons (pb_var (pv 0)) (pab_nil))) (pad_nil)))) (blkOk_by (by kernel_rfl)) (only_name) (fun _ _ _ _ _ => pgd_name (pg_name hN rfl (by first | exact Or.inl rfl | exact Or.inr rfl | exact Or.inr (Or.inl rfl) | exact Or.inr (Or.inr rfl)))) (fun _ _ _ _ _ => pts_d0) (fun _ _ _ _ _ => pg_call (g_couple_from M hb) (hr.mono (by decide)) hgd (by exact rfl) (pad_cons (pd_var (pv 0)) (pad_cons (pd_var (pv 1)) (pad_nil))))))))
noncomputable def c_all_greatest_0 : Dn.Env → T AV := lcD [1] (itS (cal (calling 1 d_all_couples) (aC (vA 0) (a0)))) (gN 1) (tAnd (tB (bin neA (oA (bin ixD (vD 1) (oA (kA (.int 0))))) (oA (cal mkTup (a0))))) (tB (bin neA (oA (bin ixD (vD 1) (oA (kA (.int 1))))) (oA (cal mkTup (a0)))))) (vA 1)
noncomputable def b_all_greatest : Dn.Env → T Out := sRet (c_all_greatest_0)
noncomputable def d_all_greatest : List AV → T AV := shut (runD 1 2 b_all_greatest)
theorem q_all_greatest : d_all_greatest = runD 1 2 b_all_greatest := shut_eq _
theorem s_all_greatest : FnScope ["relation", "one"] ["relation"] (defScope (LawHd.top 32)) := ⟨rfl, rfl, rfl, by decide +kernel, rfl, by decide +kernel, by decide +kernel⟩
theorem g_all_greatest (M : Facts K mg) {base : Heap} (hb : Hb K mg base) : FnG P w K mg base (TbL K) (Cal P w K mg base (TbL K)) "all_greatest" (LawHd.top 32) ["relation"] 4 d_all_greatest := by
  rw [q_all_greatest]
  obtain ⟨fd, F⟩ := M.f_all_greatest
  refine fn_g (N := ["relation", "one"]) F s_all_greatest M.g_all_greatest (by decide) (fun _ _ _ _ _ _ us hl => match us, hl with | [_], _ => rfl) fun cdv A outer s H hr hgd => ?_
  have hN : (["relation", "one"] : List Str).Nodup := s_all_greatest.nd
  have hu := room200 hr
  unfold b_all_greatest
  exact psd_one (psd_ret (pd_lc (own := [("one", 1)]) (g := gN 1) (t := tAnd (tB (bin neA (oA (bin ixD (vD 1) (oA (kA (.int 0))))) (oA (cal mkTup (a0))))) (tB (bin neA (oA (bin ixD (vD 1) (oA (kA (.int 1))))) (oA (cal mkTup (a0)))))) (f := vA 1) rfl hN (pid_seq (pg_call (g_all_couples M hb) (hr.mono (by decide)) hgd (by exact rfl) (pad_cons (pd_var (pv 0)) (pad_nil)))) (blkOk_by (by kernel_rfl)) (only_name) (fun _ _ _ _ _ => pgd_name (pg_name hN rfl (by first | exact Or.inl rfl | exact Or.inr rfl | exact Or.inr (Or.inl rfl) | exact Or.inr (Or.inr rfl)))) (fun _ _ _ _ _ => pts_d1 (PW.pt (pwd_and (ptd_cmp (Dn.OpR.or op_ne (op_neD (u64 hu))) ok_neA (pb_of (pd_ix ix_seq ok_ix (pb_var (pv 1)) (pb_of (pd_int)) (by intro _ _; rfl))) (pb_of (pd_tup (pad_nil))) rfl) (pwd_and1 (ptd_cmp (Dn.OpR.or op_ne (op_neD (u64 hu))) ok_neA (pb_of (pd_ix ix_seq ok_ix (pb_var (pv 1)) (pb_of (pd_int)) (by intro _ _; rfl))) (pb_of (pd_tup (pad_nil))) rfl))))) (fun _ _ _ _ _ => pd_var (pv 1))))
noncomputable def b_is_greatest_block : Dn.Env → T Out := seqD (sEx (cal (calling 1 d_want_relation) (aC (vA 0) (a0)))) (sRet (andA (cal (calling 2 d_is_block_value) (aC (vA 0) (aC (vA 1) (a0)))) (cal (calling 2 d_is_couple_value) (aC (vA 0) (aC (vA 1) (a0))))))
noncomputable def d_is_greatest_block : List AV → T AV := shut (runD 2 2 b_is_greatest_block)
theorem q_is_greatest_block : d_is_greatest_block = runD 2 2 b_is_greatest_block := shut_eq _
theorem s_is_greatest_block : FnScope ["relation", "value"] ["relation", "value"] (defScope (LawHd.top 33)) := ⟨rfl, rfl, rfl, by decide +kernel, rfl, by decide +kernel, by decide +kernel⟩
theorem g_is_greatest_block (M : Facts K mg) {base : Heap} (hb : Hb K mg base) : FnG P w K mg base (TbL K) (Cal P w K mg base (TbL K)) "is_greatest_block" (LawHd.top 33) ["relation", "value"] 7 d_is_greatest_block := by
  rw [q_is_greatest_block]
  obtain ⟨fd, F⟩ := M.f_is_greatest_block
  refine fn_g (N := ["relation", "value"]) F s_is_greatest_block M.g_is_greatest_block (by decide) (fun _ _ _ _ _ _ us hl => match us, hl with | [_, _], _ => rfl) fun cdv A outer s H hr hgd => ?_
  have hN : (["relation", "value"] : List Str).Nodup := s_is_greatest_block.nd
  have hu := room200 hr
  unfold b_is_greatest_block
  exact psd_cons (psd_expr (pg_call (g_want_relation M hb) (hr.mono (by decide)) hgd (by exact rfl) (pad_cons (pd_var (pv 0)) (pad_nil))))
      (psd_one (psd_ret (pd_and (pg_call (g_is_block_value M hb) (hr.mono (by decide)) hgd (by exact rfl) (pad_cons (pd_var (pv 0)) (pad_cons (pd_var (pv 1)) (pad_nil)))) (pd_one (pg_call (g_is_couple_value M hb) (hr.mono (by decide)) hgd (by exact rfl) (pad_cons (pd_var (pv 0)) (pad_cons (pd_var (pv 1)) (pad_nil))))))))
noncomputable def b_is_closed_couple : Dn.Env → T Out := seqD (sEx (cal (calling 1 d_want_relation) (aC (vA 0) (a0)))) (sRet (cal (calling 2 d_is_couple_value) (aC (vA 0) (aC (vA 1) (a0)))))
noncomputable def d_is_closed_couple : List AV → T AV := shut (runD 2 2 b_is_closed_couple)
theorem q_is_closed_couple : d_is_closed_couple = runD 2 2 b_is_closed_couple := shut_eq _
theorem s_is_closed_couple : FnScope ["relation", "value"] ["relation", "value"] (defScope (LawHd.top 34)) := ⟨rfl, rfl, rfl, by decide +kernel, rfl, by decide +kernel, by decide +kernel⟩
theorem g_is_closed_couple (M : Facts K mg) {base : Heap} (hb : Hb K mg base) : FnG P w K mg base (TbL K) (Cal P w K mg base (TbL K)) "is_closed_couple" (LawHd.top 34) ["relation", "value"] 7 d_is_closed_couple := by
  rw [q_is_closed_couple]
  obtain ⟨fd, F⟩ := M.f_is_closed_couple
  refine fn_g (N := ["relation", "value"]) F s_is_closed_couple M.g_is_closed_couple (by decide) (fun _ _ _ _ _ _ us hl => match us, hl with | [_, _], _ => rfl) fun cdv A outer s H hr hgd => ?_
  have hN : (["relation", "value"] : List Str).Nodup := s_is_closed_couple.nd
  have hu := room200 hr
  unfold b_is_closed_couple
  exact psd_cons (psd_expr (pg_call (g_want_relation M hb) (hr.mono (by decide)) hgd (by exact rfl) (pad_cons (pd_var (pv 0)) (pad_nil))))
      (psd_one (psd_ret (pg_call (g_is_couple_value M hb) (hr.mono (by decide)) hgd (by exact rfl) (pad_cons (pd_var (pv 0)) (pad_cons (pd_var (pv 1)) (pad_nil))))))
noncomputable def lb_many_full_blocks_0 : Dn.Env → T Out := setD 1 (fzA (bin subD (oA (bin addD (vD 1) (oA (cal lenD (bC (oA (cal (calling 1 d_lots_of) (aC (cal lenD (bC (oA (cal (calling 2 d_shared_by) (aC (vA 0) (aC (vA 2) (a0))))) (b0))) (a0)))) (b0)))))) (oA (kA (.int 1)))))
noncomputable def b_many_full_blocks : Dn.Env → T Out := seqD (sEx (cal (calling 1 d_want_relation) (aC (vA 0) (a0)))) (seqD (setD 1 (fzA (kA (.int 0)))) (seqD (forD (itS (slA (oA (cal (calling 1 d_lots_of) (aC (cal lenD (bC (vD 0) (b0))) (a0)))) (oI (oA (kA (.int 1)))) (o0))) (gN 2) (lb_many_full_blocks_0)) (sRet (vA 1))))
noncomputable def d_many_full_blocks : List AV → T AV := shut (runD 1 3 b_many_full_blocks)
theorem q_many_full_blocks : d_many_full_blocks = runD 1 3 b_many_full_blocks := shut_eq _
theorem s_many_full_blocks : FnScope ["relation", "found", "lot"] ["relation"] (defScope (LawHd.top 35)) := ⟨rfl, rfl, rfl, by decide +kernel, rfl, by decide +kernel, by decide +kernel⟩
theorem g_many_full_blocks (M : Facts K mg) {base : Heap} (hb : Hb K mg base) : FnG P w K mg base (TbL K) (Cal P w K mg base (TbL K)) "many_full_blocks" (LawHd.top 35) ["relation"] 7 d_many_full_blocks := by
  rw [q_many_full_blocks]
  obtain ⟨fd, F⟩ := M.f_many_full_blocks
  refine fn_g (N := ["relation", "found", "lot"]) F s_many_full_blocks M.g_many_full_blocks (by decide) (fun _ _ _ _ _ _ us hl => match us, hl with | [_], _ => rfl) fun cdv A outer s H hr hgd => ?_
  have hN : (["relation", "found", "lot"] : List Str).Nodup := s_many_full_blocks.nd
  have hu := room200 hr
  unfold b_many_full_blocks
  exact psd_cons (psd_expr (pg_call (g_want_relation M hb) (hr.mono (by decide)) hgd (by exact rfl) (pad_cons (pd_var (pv 0)) (pad_nil))))
      (psd_cons (psd_set (ps_set hN rfl (by first | exact Or.inl rfl | exact Or.inr rfl | exact Or.inr (Or.inl rfl) | exact Or.inr (Or.inr rfl)) (pd_frz (pd_int))))
      (psd_cons (psd_for PassesOwn.never rfl (pid_seq (pd_slice (pb_of (pg_call (g_lots_of M hb) (hr.mono (by decide)) hgd (by exact rfl) (pad_cons (pd_blt call_len_seq ok_len (by exact rfl) M.b_len (by decide +kernel) (pab_cons (pb_var (pv 0)) (pab_nil))) (pad_nil)))) (po_some' (pb_of (pd_int))) (po_none'))) (pgd_name (pg_name hN rfl (by first | exact Or.inl rfl | exact Or.inr rfl | exact Or.inr (Or.inl rfl) | exact Or.inr (Or.inr rfl)))) (psd_one (psd_set (ps_set hN rfl (by first | exact Or.inl rfl | exact Or.inr rfl | exact Or.inr (Or.inl rfl) | exact Or.inr (Or.inr rfl)) (pd_frz (pd_op op_sub ok_sub (pb_of (pd_op op_addAll ok_add (pb_var (pv 1)) (pb_of (pd_blt call_len_seq ok_len (by exact rfl) M.b_len (by decide +kernel) (pab_cons (pb_of (pg_call (g_lots_of M hb) (hr.mono (by decide)) hgd (by exact rfl) (pad_cons (pd_blt call_len_seq ok_len (by exact rfl) M.b_len (by decide +kernel) (pab_cons (pb_of (pg_call (g_shared_by M hb) (hr.mono (by decide)) hgd (by exact rfl) (pad_cons (pd_var (pv 0)) (pad_cons (pd_var (pv 2)) (pad_nil))))) (pab_nil))) (pad_nil)))) (pab_nil)))))) (pb_of (pd_int))))))))
      (psd_one (psd_ret (pd_var (pv 1))))))
noncomputable def b_greatest_blocks : Dn.Env → T Out := seqD (sEx (cal (calling 1 d_want_relation) (aC (vA 0) (a0)))) (sRet (cal (calling 1 d_all_greatest) (aC (vA 0) (a0))))
noncomputable def d_greatest_blocks : List AV → T AV := shut (runD 1 1 b_greatest_blocks)
theorem q_greatest_blocks : d_greatest_blocks = runD 1 1 b_greatest_blocks := shut_eq _
theorem s_greatest_blocks : FnScope ["relation"] ["relation"] (defScope (LawHd.top 36)) := ⟨rfl, rfl, rfl, by decide +kernel, rfl, by decide +kernel, by decide +kernel⟩
theorem g_greatest_blocks (M : Facts K mg) {base : Heap} (hb : Hb K mg base) : FnG P w K mg base (TbL K) (Cal P w K mg base (TbL K)) "greatest_blocks" (LawHd.top 36) ["relation"] 7 d_greatest_blocks := by
  rw [q_greatest_blocks]
  obtain ⟨fd, F⟩ := M.f_greatest_blocks
  refine fn_g (N := ["relation"]) F s_greatest_blocks M.g_greatest_blocks (by decide) (fun _ _ _ _ _ _ us hl => match us, hl with | [_], _ => rfl) fun cdv A outer s H hr hgd => ?_
  have hN : (["relation"] : List Str).Nodup := s_greatest_blocks.nd
  have hu := room200 hr
  unfold b_greatest_blocks
  exact psd_cons (psd_expr (pg_call (g_want_relation M hb) (hr.mono (by decide)) hgd (by exact rfl) (pad_cons (pd_var (pv 0)) (pad_nil))))
      (psd_one (psd_ret (pg_call (g_all_greatest M hb) (hr.mono (by decide)) hgd (by exact rfl) (pad_cons (pd_var (pv 0)) (pad_nil)))))
noncomputable def b_closed_couples : Dn.Env → T Out := seqD (sEx (cal (calling 1 d_want_relation) (aC (vA 0) (a0)))) (sRet (cal (calling 1 d_all_couples) (aC (vA 0) (a0))))
noncomputable def d_closed_couples : List AV → T AV := shut (runD 1 1 b_closed_couples)
theorem q_closed_couples : d_closed_couples = runD 1 1 b_closed_couples := shut_eq _
theorem s_closed_couples : FnScope ["relation"] ["relation"] (defScope (LawHd.top 37)) := ⟨rfl, rfl, rfl, by decide +kernel, rfl, by decide +kernel, by decide +kernel⟩
theorem g_closed_couples (M : Facts K mg) {base : Heap} (hb : Hb K mg base) : FnG P w K mg base (TbL K) (Cal P w K mg base (TbL K)) "closed_couples" (LawHd.top 37) ["relation"] 7 d_closed_couples := by
  rw [q_closed_couples]
  obtain ⟨fd, F⟩ := M.f_closed_couples
  refine fn_g (N := ["relation"]) F s_closed_couples M.g_closed_couples (by decide) (fun _ _ _ _ _ _ us hl => match us, hl with | [_], _ => rfl) fun cdv A outer s H hr hgd => ?_
  have hN : (["relation"] : List Str).Nodup := s_closed_couples.nd
  have hu := room200 hr
  unfold b_closed_couples
  exact psd_cons (psd_expr (pg_call (g_want_relation M hb) (hr.mono (by decide)) hgd (by exact rfl) (pad_cons (pd_var (pv 0)) (pad_nil))))
      (psd_one (psd_ret (pg_call (g_all_couples M hb) (hr.mono (by decide)) hgd (by exact rfl) (pad_cons (pd_var (pv 0)) (pad_nil)))))
noncomputable def c_widest_block_0 : Dn.Env → T AV := lcD [3, 4] (itS (vA 1)) (tupG 2 (consG (gN 3) (consG (gN 4) (g0)))) (lcTest0) (bin mulX (oA (cal lenD (bC (vD 3) (b0)))) (oA (cal lenD (bC (vD 4) (b0)))))
noncomputable def c_widest_block_1 : Dn.Env → T AV := lcD [3, 4] (itS (vA 1)) (tupG 2 (consG (gN 3) (consG (gN 4) (g0)))) (tB (bin eqA (oA (bin mulX (oA (cal lenD (bC (vD 3) (b0)))) (oA (cal lenD (bC (vD 4) (b0)))))) (vD 2))) (cal mkTup (aC (vA 3) (aC (vA 4) (a0))))
noncomputable def b_widest_block : Dn.Env → T Out := seqD (sEx (cal (calling 1 d_want_relation) (aC (vA 0) (a0)))) (seqD (setD 1 (fzA (cal (calling 1 d_all_greatest) (aC (vA 0) (a0))))) (seqD (setD 2 (fzA (cal (bestD PySem.W.maxD) (bC (oA (bin addD (oA (cal mkLst (aC (kA (.int 0)) (a0)))) (oA (c_widest_block_0)))) (b0))))) (seqD (setD 5 (c_widest_block_1)) (sRet (ifA (tB (bin neA (vD 5) (oA (cal mkLst (a0))))) (bin ixD (vD 5) (oA (kA (.int 0)))) (kA .none))))))
noncomputable def d_widest_block : List AV → T AV := shut (runD 1 6 b_widest_block)
theorem q_widest_block : d_widest_block = runD 1 6 b_widest_block := shut_eq _
theorem s_widest_block : FnScope ["relation", "some", "most", "one", "late", "wide"] ["relation"] (defScope (LawHd.top 38)) := ⟨rfl, rfl, rfl, by decide +kernel, rfl, by decide +kernel, by decide +kernel⟩
theorem g_widest_block (M : Facts K mg) {base : Heap} (hb : Hb K mg base) : FnG P w K mg base (TbL K) (Cal P w K mg base (TbL K)) "widest_block" (LawHd.top 38) ["relation"] 7 d_widest_block := by
  rw [q_widest_block]
  obtain ⟨fd, F⟩ := M.f_widest_block
  refine fn_g (N := ["relation", "some", "most", "one", "late", "wide"]) F s_widest_block M.g_widest_block (by decide) (fun _ _ _ _ _ _ us hl => match us, hl with | [_], _ => rfl) fun cdv A outer s H hr hgd => ?_
  have hN : (["relation", "some", "most", "one", "late", "wide"] : List Str).Nodup := s_widest_block.nd
  have hu := room200 hr
  unfold b_widest_block
  exact psd_cons (psd_expr (pg_call (g_want_relation M hb) (hr.mono (by decide)) hgd (by exact rfl) (pad_cons (pd_var (pv 0)) (pad_nil))))
      (psd_cons (psd_set (ps_set hN rfl (by first | exact Or.inl rfl | exact Or.inr rfl | exact Or.inr (Or.inl rfl) | exact Or.inr (Or.inr rfl)) (pd_frz (pg_call (g_all_greatest M hb) (hr.mono (by decide)) hgd (by exact rfl) (pad_cons (pd_var (pv 0)) (pad_nil))))))
      (psd_cons (psd_set (ps_set hN rfl (by first | exact Or.inl rfl | exact Or.inr rfl | exact Or.inr (Or.inl rfl) | exact Or.inr (Or.inr rfl)) (pd_frz (pd_blt (cr_maxD rfl hu) ok_best (by exact rfl) M.b_max (by decide +kernel) (pab_cons (pb_of (pd_op op_addAll ok_add (pb_of (pd_lst (pad_cons (pd_int) (pad_nil)))) (pb_of (pd_lc (own := [("one", 3), ("late", 4)]) (g := tupG 2 (consG (gN 3) (consG (gN 4) (g0)))) (t := lcTest0) (f := bin mulX (oA (cal lenD (bC (vD 3) (b0)))) (oA (cal lenD (bC (vD 4) (b0))))) rfl hN (pid_seq (pd_var (pv 1))) (blkOk_by (by kernel_rfl)) (only_tup (only_cons (only_name) (only_cons (only_name) (only_nil)))) (fun _ _ _ _ _ => pgd_tup rfl (pgsd_cons (pgd_name (pg_name hN rfl (by first | exact Or.inl rfl | exact Or.inr rfl | exact Or.inr (Or.inl rfl) | exact Or.inr (Or.inr rfl)))) (pgsd_cons (pgd_name (pg_name hN rfl (by first | exact Or.inl rfl | exact Or.inr rfl | exact Or.inr (Or.inl rfl) | exact Or.inr (Or.inr rfl)))) (pgsd_nil)))) (fun _ _ _ _ _ => pts_d0) (fun _ _ _ _ _ => pd_op (Dn.OpR.or op_mul op_repT) ok_mulX (pb_of (pd_blt call_len_seq ok_len (by exact rfl) M.b_len (by decide +kernel) (pab_cons (pb_var (pv 3)) (pab_nil)))) (pb_of (pd_blt call_len_seq ok_len (by exact rfl) M.b_len (by decide +kernel) (pab_cons (pb_var (pv 4)) (pab_nil))))))))) (pab_nil))))))
      (psd_cons (psd_setLc (own := [("one", 3), ("late", 4)]) (g := tupG 2 (consG (gN 3) (consG (gN 4) (g0)))) (t := tB (bin eqA (oA (bin mulX (oA (cal lenD (bC (vD 3) (b0)))) (oA (cal lenD (bC (vD 4) (b0)))))) (vD 2))) (f := cal mkTup (aC (vA 3) (aC (vA 4) (a0)))) rfl hN rfl rfl rfl (pid_seq (pd_var (pv 1))) (blkOk_by (by kernel_rfl)) (only_tup (only_cons (only_name) (only_cons (only_name) (only_nil)))) (fun _ _ _ _ _ => pgd_tup rfl (pgsd_cons (pgd_name (pg_name hN rfl (by first | exact Or.inl rfl | exact Or.inr rfl | exact Or.inr (Or.inl rfl) | exact Or.inr (Or.inr rfl)))) (pgsd_cons (pgd_name (pg_name hN rfl (by first | exact Or.inl rfl | exact Or.inr rfl | exact Or.inr (Or.inl rfl) | exact Or.inr (Or.inr rfl)))) (pgsd_nil)))) (fun _ _ _ _ _ => pts_d1 (ptd_cmp (Dn.OpR.or op_eq (op_eqD (u64 hu))) ok_eqA (pb_of (pd_op (Dn.OpR.or op_mul op_repT) ok_mulX (pb_of (pd_blt call_len_seq ok_len (by exact rfl) M.b_len (by decide +kernel) (pab_cons (pb_var (pv 3)) (pab_nil)))) (pb_of (pd_blt call_len_seq ok_len (by exact rfl) M.b_len (by decide +kernel) (pab_cons (pb_var (pv 4)) (pab_nil)))))) (pb_var (pv 2)) rfl)) (fun _ _ _ _ _ => pd_tup (pad_cons (pd_var (pv 3)) (pad_cons (pd_var (pv 4)) (pad_nil)))))
      (psd_one (psd_ret (pd_if (ptd_cmp (Dn.OpR.or op_ne (op_neD (u64 hu))) ok_neA (pb_var (pv 5)) (pb_of (pd_lst (pad_nil))) rfl) (pd_ix ix_seq ok_ix (pb_var (pv 5)) (pb_of (pd_int)) (by intro _ _; rfl)) (pd_non)))))))
noncomputable def b_block_from : Dn.Env → T Out := seqD (sEx (cal (calling 1 d_want_relation) (aC (vA 0) (a0)))) (seqD (sEx (cal (calling 2 d_want_lot) (aC (vA 0) (aC (vA 1) (a0))))) (sRet (cal (calling 2 d_couple_from) (aC (vA 0) (aC (vA 1) (a0))))))
noncomputable def d_block_from : List AV → T AV := shut (runD 2 2 b_block_from)
theorem q_block_from : d_block_from = runD 2 2 b_block_from := shut_eq _
theorem s_block_from : FnScope ["relation", "lot"] ["relation", "lot"] (defScope (LawHd.top 39)) := ⟨rfl, rfl, rfl, by decide +kernel, rfl, by decide +kernel, by decide +kernel⟩
theorem g_block_from (M : Facts K mg) {base : Heap} (hb : Hb K mg base) : FnG P w K mg base (TbL K) (Cal P w K mg base (TbL K)) "block_from" (LawHd.top 39) ["relation", "lot"] 7 d_block_from := by
  rw [q_block_from]
  obtain ⟨fd, F⟩ := M.f_block_from
  refine fn_g (N := ["relation", "lot"]) F s_block_from M.g_block_from (by decide) (fun _ _ _ _ _ _ us hl => match us, hl with | [_, _], _ => rfl) fun cdv A outer s H hr hgd => ?_
  have hN : (["relation", "lot"] : List Str).Nodup := s_block_from.nd
  have hu := room200 hr
  unfold b_block_from
  exact psd_cons (psd_expr (pg_call (g_want_relation M hb) (hr.mono (by decide)) hgd (by exact rfl) (pad_cons (pd_var (pv 0)) (pad_nil))))
      (psd_cons (psd_expr (pg_call (g_want_lot M hb) (hr.mono (by decide)) hgd (by exact rfl) (pad_cons (pd_var (pv 0)) (pad_cons (pd_var (pv 1)) (pad_nil)))))
      (psd_one (psd_ret (pg_call (g_couple_from M hb) (hr.mono (by decide)) hgd (by exact rfl) (pad_cons (pd_var (pv 0)) (pad_cons (pd_var (pv 1)) (pad_nil)))))))
noncomputable def b_block_to : Dn.Env → T Out := seqD (sEx (cal (calling 1 d_want_relation) (aC (vA 0) (a0)))) (seqD (sEx (cal (calling 2 d_want_lot) (aC (vA 0) (aC (vA 1) (a0))))) (sRet (cal (calling 2 d_couple_to) (aC (vA 0) (aC (vA 1) (a0))))))
noncomputable def d_block_to : List AV → T AV := shut (runD 2 2 b_block_to)
theorem q_block_to : d_block_to = runD 2 2 b_block_to := shut_eq _
theorem s_block_to : FnScope ["relation", "lot"] ["relation", "lot"] (defScope (LawHd.top 40)) := ⟨rfl, rfl, rfl, by decide +kernel, rfl, by decide +kernel, by decide +kernel⟩
theorem g_block_to (M : Facts K mg) {base : Heap} (hb : Hb K mg base) : FnG P w K mg base (TbL K) (Cal P w K mg base (TbL K)) "block_to" (LawHd.top 40) ["relation", "lot"] 7 d_block_to := by
  rw [q_block_to]
  obtain ⟨fd, F⟩ := M.f_block_to
  refine fn_g (N := ["relation", "lot"]) F s_block_to M.g_block_to (by decide) (fun _ _ _ _ _ _ us hl => match us, hl with | [_, _], _ => rfl) fun cdv A outer s H hr hgd => ?_
  have hN : (["relation", "lot"] : List Str).Nodup := s_block_to.nd
  have hu := room200 hr
  unfold b_block_to
  exact psd_cons (psd_expr (pg_call (g_want_relation M hb) (hr.mono (by decide)) hgd (by exact rfl) (pad_cons (pd_var (pv 0)) (pad_nil))))
      (psd_cons (psd_expr (pg_call (g_want_lot M hb) (hr.mono (by decide)) hgd (by exact rfl) (pad_cons (pd_var (pv 0)) (pad_cons (pd_var (pv 1)) (pad_nil)))))
      (psd_one (psd_ret (pg_call (g_couple_to M hb) (hr.mono (by decide)) hgd (by exact rfl) (pad_cons (pd_var (pv 0)) (pad_cons (pd_var (pv 1)) (pad_nil)))))))
noncomputable def c_couples_met_0 : Dn.Env → T AV := lcD [3] (itS (bin ixD (vD 1) (oA (kA (.int 0))))) (gN 3) (tB (bin (memD id) (vD 3) (oA (bin ixD (vD 2) (oA (kA (.int 0))))))) (vA 3)
noncomputable def b_couples_met : Dn.Env → T Out := seqD (sEx (cal (calling 1 d_want_relation) (aC (vA 0) (a0)))) (seqD (sEx (cal (calling 2 d_want_couple) (aC (vA 0) (aC (vA 1) (a0))))) (seqD (sEx (cal (calling 2 d_want_couple) (aC (vA 0) (aC (vA 2) (a0))))) (sRet (cal (calling 2 d_couple_from) (aC (vA 0) (aC (cal tupleD (bC (oA (c_couples_met_0)) (b0))) (a0)))))))
noncomputable def d_couples_met : List AV → T AV := shut (runD 3 4 b_couples_met)
theorem q_couples_met : d_couples_met = runD 3 4 b_couples_met := shut_eq _
theorem s_couples_met : FnScope ["relation", "one", "late", "thing"] ["relation", "one", "late"] (defScope (LawHd.top 41)) := ⟨rfl, rfl, rfl, by decide +kernel, rfl, by decide +kernel, by decide +kernel⟩
theorem g_couples_met (M : Facts K mg) {base : Heap} (hb : Hb K mg base) : FnG P w K mg base (TbL K) (Cal P w K mg base (TbL K)) "couples_met" (LawHd.top 41) ["relation", "one", "late"] 7 d_couples_met := by
  rw [q_couples_met]
  obtain ⟨fd, F⟩ := M.f_couples_met
  refine fn_g (N := ["relation", "one", "late", "thing"]) F s_couples_met M.g_couples_met (by decide) (fun _ _ _ _ _ _ us hl => match us, hl with | [_, _, _], _ => rfl) fun cdv A outer s H hr hgd => ?_
  have hN : (["relation", "one", "late", "thing"] : List Str).Nodup := s_couples_met.nd
  have hu := room200 hr
  unfold b_couples_met
  exact psd_cons (psd_expr (pg_call (g_want_relation M hb) (hr.mono (by decide)) hgd (by exact rfl) (pad_cons (pd_var (pv 0)) (pad_nil))))
      (psd_cons (psd_expr (pg_call (g_want_couple M hb) (hr.mono (by decide)) hgd (by exact rfl) (pad_cons (pd_var (pv 0)) (pad_cons (pd_var (pv 1)) (pad_nil)))))
      (psd_cons (psd_expr (pg_call (g_want_couple M hb) (hr.mono (by decide)) hgd (by exact rfl) (pad_cons (pd_var (pv 0)) (pad_cons (pd_var (pv 2)) (pad_nil)))))
      (psd_one (psd_ret (pg_call (g_couple_from M hb) (hr.mono (by decide)) hgd (by exact rfl) (pad_cons (pd_var (pv 0)) (pad_cons (pd_ty call_tuple_of ok_tuple (by exact rfl) M.b_tuple (by decide +kernel) (pab_cons (pb_of (pd_lc (own := [("thing", 3)]) (g := gN 3) (t := tB (bin (memD id) (vD 3) (oA (bin ixD (vD 2) (oA (kA (.int 0))))))) (f := vA 3) rfl hN (pid_seq (pd_ix ix_seq ok_ix (pb_var (pv 1)) (pb_of (pd_int)) (by intro _ _; rfl))) (blkOk_by (by kernel_rfl)) (only_name) (fun _ _ _ _ _ => pgd_name (pg_name hN rfl (by first | exact Or.inl rfl | exact Or.inr rfl | exact Or.inr (Or.inl rfl) | exact Or.inr (Or.inr rfl)))) (fun _ _ _ _ _ => pts_d1 (ptd_cmp (op_inA hu) ok_mem (pb_var (pv 3)) (pb_of (pd_ix ix_seq ok_ix (pb_var (pv 2)) (pb_of (pd_int)) (by intro _ _; rfl))) rfl)) (fun _ _ _ _ _ => pd_var (pv 3)))) (pab_nil))) (pad_nil))))))))
noncomputable def c_couples_joined_0 : Dn.Env → T AV := lcD [3] (itS (bin ixD (vD 1) (oA (kA (.int 1))))) (gN 3) (tB (bin (memD id) (vD 3) (oA (bin ixD (vD 2) (oA (kA (.int 1))))))) (vA 3)
noncomputable def b_couples_joined : Dn.Env → T Out := seqD (sEx (cal (calling 1 d_want_relation) (aC (vA 0) (a0)))) (seqD (sEx (cal (calling 2 d_want_couple) (aC (vA 0) (aC (vA 1) (a0))))) (seqD (sEx (cal (calling 2 d_want_couple) (aC (vA 0) (aC (vA 2) (a0))))) (sRet (cal (calling 2 d_couple_to) (aC (vA 0) (aC (cal tupleD (bC (oA (c_couples_joined_0)) (b0))) (a0)))))))
noncomputable def d_couples_joined : List AV → T AV := shut (runD 3 4 b_couples_joined)
theorem q_couples_joined : d_couples_joined = runD 3 4 b_couples_joined := shut_eq _
theorem s_couples_joined : FnScope ["relation", "one", "late", "thing"] ["relation", "one", "late"] (defScope (LawHd.top 42)) := ⟨rfl, rfl, rfl, by decide +kernel, rfl, by decide +kernel, by decide +kernel⟩
theorem g_couples_joined (M : Facts K mg) {base : Heap} (hb : Hb K mg base) : FnG P w K mg base (TbL K) (Cal P w K mg base (TbL K)) "couples_joined" (LawHd.top 42) ["relation", "one", "late"] 7 d_couples_joined := by
  rw [q_couples_joined]
  obtain ⟨fd, F⟩ := M.f_couples_joined
  refine fn_g (N := ["relation", "one", "late", "thing"]) F s_couples_joined M.g_couples_joined (by decide) (fun _ _ _ _ _ _ us hl => match us, hl with | [_, _, _], _ => rfl) fun cdv A outer s H hr hgd => ?_
  have hN : (["relation", "one", "late", "thing"] : List Str).Nodup := s_couples_joined.nd
  have hu := room200 hr
  unfold b_couples_joined
  exact psd_cons (psd_expr (pg_call (g_want_relation M hb) (hr.mono (by decide)) hgd (by exact rfl) (pad_cons (pd_var (pv 0)) (pad_nil))))
      (psd_cons (psd_expr (pg_call (g_want_couple M hb) (hr.mono (by decide)) hgd (by exact rfl) (pad_cons (pd_var (pv 0)) (pad_cons (pd_var (pv 1)) (pad_nil)))))
      (psd_cons (psd_expr (pg_call (g_want_couple M hb) (hr.mono (by decide)) hgd (by exact rfl) (pad_cons (pd_var (pv 0)) (pad_cons (pd_var (pv 2)) (pad_nil)))))
      (psd_one (psd_ret (pg_call (g_couple_to M hb) (hr.mono (by decide)) hgd (by exact rfl) (pad_cons (pd_var (pv 0)) (pad_cons (pd_ty call_tuple_of ok_tuple (by exact rfl) M.b_tuple (by decide +kernel) (pab_cons (pb_of (pd_lc (own := [("thing", 3)]) (g := gN 3) (t := tB (bin (memD id) (vD 3) (oA (bin ixD (vD 2) (oA (kA (.int 1))))))) (f := vA 3) rfl hN (pid_seq (pd_ix ix_seq ok_ix (pb_var (pv 1)) (pb_of (pd_int)) (by intro _ _; rfl))) (blkOk_by (by kernel_rfl)) (only_name) (fun _ _ _ _ _ => pgd_name (pg_name hN rfl (by first | exact Or.inl rfl | exact Or.inr rfl | exact Or.inr (Or.inl rfl) | exact Or.inr (Or.inr rfl)))) (fun _ _ _ _ _ => pts_d1 (ptd_cmp (op_inA hu) ok_mem (pb_var (pv 3)) (pb_of (pd_ix ix_seq ok_ix (pb_var (pv 2)) (pb_of (pd_int)) (by intro _ _; rfl))) rfl)) (fun _ _ _ _ _ => pd_var (pv 3)))) (pab_nil))) (pad_nil))))))))
noncomputable def b__law_pot : Dn.Env → T Out := seqD (setD 2 (fzA (bin addD (oA (bin mulX (oA (kA (.int 4001))) (vD 1))) (oA (kA (.int 3299)))))) (seqD (ifD (tB (bin ltD (vD 1) (oA (cal lenD (bC (vD 0) (b0)))))) (setD 2 (fzA (cal absD (bC (oA (bin ixD (vD 0) (vD 1))) (b0))))) (sNil)) (sRet (cal mkLst (aC (cal max2D (bC (oA (kA (.int 0))) (bC (oA (bin subD (vD 2) (oA (bin powD (oA (kA (.int 10))) (oA (kA (.int 18))))))) (b0)))) (aC (bin addD (oA (bin modD (oA (cal intOfD (bC (oA (bin addD (oA (bin addD (oA (bin mulX (oA (bin modD (oA (cal intOfD (bC (vD 2) (b0)))) (oA (kA (.int 2147483549))))) (oA (kA (.int 48271))))) (oA (bin mulX (oA (kA (.int 4001))) (vD 1))))) (oA (kA (.int 3299))))) (b0)))) (oA (kA (.int 2147483563))))) (oA (kA (.int 1)))) (a0))))))
noncomputable def d__law_pot0 : List AV → T AV := shut (runD 2 3 b__law_pot)
theorem q__law_pot0 : d__law_pot0 = runD 2 3 b__law_pot := shut_eq _
theorem s__law_pot : FnScope ["script", "k", "cell"] ["script", "k"] (defScope (LawHd.top 44)) := ⟨rfl, rfl, rfl, by decide +kernel, rfl, by decide +kernel, by decide +kernel⟩
theorem g__law_pot0 (M : Facts K mg) {base : Heap} (hb : Hb K mg base) : FnG P w K mg base (TbL K) (Cal P w K mg base (TbL K)) "_law_pot" (LawHd.top 44) ["script", "k"] 1 d__law_pot0 := by
  rw [q__law_pot0]
  obtain ⟨fd, F⟩ := M.f__law_pot
  refine fn_g (N := ["script", "k", "cell"]) F s__law_pot M.g__law_pot (by decide) (fun _ _ _ _ _ _ us hl => match us, hl with | [_, _], _ => rfl) fun cdv A outer s H hr hgd => ?_
  have hN : (["script", "k", "cell"] : List Str).Nodup := s__law_pot.nd
  have hu := room200 hr
  unfold b__law_pot
  exact psd_cons (psd_set (ps_set hN rfl (by first | exact Or.inl rfl | exact Or.inr rfl | exact Or.inr (Or.inl rfl) | exact Or.inr (Or.inr rfl)) (pd_frz (pd_op op_addAll ok_add (pb_of (pd_op (Dn.OpR.or op_mul op_repT) ok_mulX (pb_of (pd_int)) (pb_var (pv 1)))) (pb_of (pd_int))))))
      (psd_cons (psd_if (ptd_cmp (Dn.OpR.or op_lt (op_ltD hu)) ok_ord (pb_var (pv 1)) (pb_of (pd_blt call_len_seq ok_len (by exact rfl) M.b_len (by decide +kernel) (pab_cons (pb_var (pv 0)) (pab_nil)))) rfl) (psd_one (psd_set (ps_set hN rfl (by first | exact Or.inl rfl | exact Or.inr rfl | exact Or.inr (Or.inl rfl) | exact Or.inr (Or.inr rfl)) (pd_frz (pd_blt call_abs ok_abs (by exact rfl) M.b_abs (by decide +kernel) (pab_cons (pb_of (pd_ix ix_seq ok_ix (pb_var (pv 0)) (pb_var (pv 1)) (by intro _ _; rfl))) (pab_nil))))))) (psd_nil))
      (psd_one (psd_ret (pd_lst (pad_cons (pd_blt (call_max2 rfl) ok_max2 (by exact rfl) M.b_max (by decide +kernel) (pab_cons (pb_of (pd_int)) (pab_cons (pb_of (pd_op op_sub ok_sub (pb_var (pv 2)) (pb_of (pd_op op_pow ok_pow (pb_of (pd_int)) (pb_of (pd_int)))))) (pab_nil)))) (pad_cons (pd_op op_addAll ok_add (pb_of (pd_op op_modN ok_mod (pb_of (pd_ty call_int1 ok_intOf (by exact rfl) M.b_int (by decide +kernel) (pab_cons (pb_of (pd_op op_addAll ok_add (pb_of (pd_op op_addAll ok_add (pb_of (pd_op (Dn.OpR.or op_mul op_repT) ok_mulX (pb_of (pd_op op_modN ok_mod (pb_of (pd_ty call_int1 ok_intOf (by exact rfl) M.b_int (by decide +kernel) (pab_cons (pb_var (pv 2)) (pab_nil)))) (pb_of (pd_int)))) (pb_of (pd_int)))) (pb_of (pd_op (Dn.OpR.or op_mul op_repT) ok_mulX (pb_of (pd_int)) (pb_var (pv 1)))))) (pb_of (pd_int)))) (pab_nil)))) (pb_of (pd_int)))) (pb_of (pd_int))) (pad_nil)))))))
noncomputable def d__law_pot : List AV → T AV := shut fun as => (d__law_pot0 as).bind potOf
theorem q__law_pot : d__law_pot = fun as => (d__law_pot0 as).bind potOf := shut_eq _
theorem g__law_pot (M : Facts K mg) {base : Heap} (hb : Hb K mg base) : FnG P w K mg base (TbL K) (Cal P w K mg base (TbL K)) "_law_pot" (LawHd.top 44) ["script", "k"] 1 d__law_pot := by
  rw [q__law_pot]
  exact (g__law_pot0 M hb).potOf
noncomputable def b__law_draw : Dn.Env → T Out := seqD (ifD (tB (bin gtD (oA (potRead 0 0)) (oA (kA (.int 0))))) (seqD (asgD (tupG 2 (consG (potG 0 0) (consG (gN 2) (g0)))) (cal divmodD (bC (oA (potRead 0 0)) (bC (vD 1) (b0))))) (sRet (vA 2))) (sNil)) (seqD (asgD (potG 0 1) (bin modD (oA (cal intOfD (bC (oA (bin addD (oA (bin mulX (oA (potRead 0 1)) (oA (kA (.int 40014))))) (oA (kA (.int 4793))))) (b0)))) (oA (kA (.int 2147483587))))) (sRet (bin modD (oA (cal intOfD (bC (oA (bin fdivD (oA (bin modD (oA (cal intOfD (bC (oA (bin mulX (oA (potRead 0 1)) (oA (potRead 0 1)))) (b0)))) (oA (kA (.int 2147483629))))) (oA (kA (.int 19))))) (b0)))) (vD 1))))
noncomputable def d__law_draw : List AV → T AV := shut (runD 2 3 b__law_draw)
theorem q__law_draw : d__law_draw = runD 2 3 b__law_draw := shut_eq _
theorem s__law_draw : FnScope ["pot", "many", "digit"] ["pot", "many"] (defScope (LawHd.top 45)) := ⟨rfl, rfl, rfl, by decide +kernel, rfl, by decide +kernel, by decide +kernel⟩
theorem g__law_draw (M : Facts K mg) {base : Heap} (hb : Hb K mg base) : FnG P w K mg base (TbL K) (Cal P w K mg base (TbL K)) "_law_draw" (LawHd.top 45) ["pot", "many"] 1 d__law_draw := by
  rw [q__law_draw]
  obtain ⟨fd, F⟩ := M.f__law_draw
  refine fn_g (N := ["pot", "many", "digit"]) F s__law_draw M.g__law_draw (by decide) (fun _ _ _ _ _ _ us hl => match us, hl with | [_, _], _ => rfl) fun cdv A outer s H hr hgd => ?_
  have hN : (["pot", "many", "digit"] : List Str).Nodup := s__law_draw.nd
  have hu := room200 hr
  unfold b__law_draw
  exact psd_cons (psd_if (ptd_cmp (Dn.OpR.or op_gt (op_gtD hu)) ok_ord (pb_of (pd_pot (pv 0) (by intro _ _; rfl))) (pb_of (pd_int)) rfl) (psd_cons (psd_asg (ps_asg (pd_blt call_divmod ok_divmod (by exact rfl) M.b_divmod (by decide +kernel) (pab_cons (pb_of (pd_pot (pv 0) (by intro _ _; rfl))) (pab_cons (pb_var (pv 1)) (pab_nil)))) (pgd_tup rfl (pgsd_cons (pgd_pot (pv 0)) (pgsd_cons (pgd_name (pg_name hN rfl (by first | exact Or.inl rfl | exact Or.inr rfl | exact Or.inr (Or.inl rfl) | exact Or.inr (Or.inr rfl)))) (pgsd_nil)))).pg))
      (psd_one (psd_ret (pd_var (pv 2))))) (psd_nil))
      (psd_cons (psd_asg (ps_asg (pd_op op_modN ok_mod (pb_of (pd_ty call_int1 ok_intOf (by exact rfl) M.b_int (by decide +kernel) (pab_cons (pb_of (pd_op op_addAll ok_add (pb_of (pd_op (Dn.OpR.or op_mul op_repT) ok_mulX (pb_of (pd_pot (pv 0) (by intro _ _; rfl))) (pb_of (pd_int)))) (pb_of (pd_int)))) (pab_nil)))) (pb_of (pd_int))) (pgd_pot (pv 0)).pg))
      (psd_one (psd_ret (pd_op op_modN ok_mod (pb_of (pd_ty call_int1 ok_intOf (by exact rfl) M.b_int (by decide +kernel) (pab_cons (pb_of (pd_op op_fdivN ok_fdiv (pb_of (pd_op op_modN ok_mod (pb_of (pd_ty call_int1 ok_intOf (by exact rfl) M.b_int (by decide +kernel) (pab_cons (pb_of (pd_op (Dn.OpR.or op_mul op_repT) ok_mulX (pb_of (pd_pot (pv 0) (by intro _ _; rfl))) (pb_of (pd_pot (pv 0) (by intro _ _; rfl))))) (pab_nil)))) (pb_of (pd_int)))) (pb_of (pd_int)))) (pab_nil)))) (pb_var (pv 1))))))
noncomputable def b__law_pick : Dn.Env → T Out := sRet (bin ixD (vD 1) (oA (cal (calling 2 d__law_draw) (aC (vA 0) (aC (cal lenD (bC (vD 1) (b0))) (a0))))))
noncomputable def d__law_pick : List AV → T AV := shut (runD 2 2 b__law_pick)
theorem q__law_pick : d__law_pick = runD 2 2 b__law_pick := shut_eq _
theorem s__law_pick : FnScope ["pot", "some"] ["pot", "some"] (defScope (LawHd.top 46)) := ⟨rfl, rfl, rfl, by decide +kernel, rfl, by decide +kernel, by decide +kernel⟩
theorem g__law_pick (M : Facts K mg) {base : Heap} (hb : Hb K mg base) : FnG P w K mg base (TbL K) (Cal P w K mg base (TbL K)) "_law_pick" (LawHd.top 46) ["pot", "some"] 2 d__law_pick := by
  rw [q__law_pick]
  obtain ⟨fd, F⟩ := M.f__law_pick
  refine fn_g (N := ["pot", "some"]) F s__law_pick M.g__law_pick (by decide) (fun _ _ _ _ _ _ us hl => match us, hl with | [_, _], _ => rfl) fun cdv A outer s H hr hgd => ?_
  have hN : (["pot", "some"] : List Str).Nodup := s__law_pick.nd
  have hu := room200 hr
  unfold b__law_pick
  exact psd_one (psd_ret (pd_ix ix_seq ok_ix (pb_var (pv 1)) (pb_of (pg_call (g__law_draw M hb) (hr.mono (by decide)) hgd (by exact rfl) (pad_cons (pd_var (pv 0)) (pad_cons (pd_blt call_len_seq ok_len (by exact rfl) M.b_len (by decide +kernel) (pab_cons (pb_var (pv 1)) (pab_nil))) (pad_nil))))) (by intro _ _; rfl)))
noncomputable def c__law_relation_0 : Dn.Env → T AV := lcD [5] (itR (vD 1)) (gN 5) (tB (bin ltD (oA (cal (calling 2 d__law_draw) (aC (vA 0) (aC (kA (.int 5)) (a0))))) (vD 3))) (vA 5)
noncomputable def c__law_relation_1 : Dn.Env → T AV := lcD [6] (itR (vD 1)) (gN 6) (lcTest0) (c__law_relation_0)
noncomputable def c__law_relation_2 : Dn.Env → T AV := lcD [6] (itR (vD 1)) (gN 6) (lcTest0) (cal mkLst (a0))
noncomputable def c__law_relation_3 : Dn.Env → T AV := lcD [6] (itR (vD 1)) (gN 6) (tB (bin eqA (oA (cal (calling 2 d__law_draw) (aC (vA 0) (aC (kA (.int 2)) (a0))))) (oA (kA (.int 0))))) (vA 6)
noncomputable def c__law_relation_4 : Dn.Env → T AV := lcD [6] (itR (vD 1)) (gN 6) (tB (bin eqA (oA (cal (calling 2 d__law_draw) (aC (vA 0) (aC (kA (.int 2)) (a0))))) (oA (kA (.int 0))))) (vA 6)
noncomputable def c__law_relation_5 : Dn.Env → T AV := lcD [9] (itS (vA 5)) (gN 9) (tB (bin (memD not) (vD 9) (vD 10))) (vA 9)
noncomputable def c__law_relation_6 : Dn.Env → T AV := lcD [6, 10] (itE2 (aC (vA 4) (a0))) (tupG 2 (consG (gN 6) (consG (gN 10) (g0)))) (lcTest0) (ifA (tB (bin (memD id) (vD 6) (vD 8))) (cal sortedD (bC (oA (bin addD (vD 10) (oA (c__law_relation_5)))) (b0))) (vA 10))
noncomputable def lb__law_relation_0 : Dn.Env → T Out := seqD (asgD (tupG 2 (consG (gN 8) (consG (gN 5) (g0)))) (cal mkTup (aC (c__law_relation_4) (aC (c__law_relation_3) (a0))))) (sShare [4] (setD 4 (c__law_relation_6)))
noncomputable def c__law_relation_7 : Dn.Env → T AV := lcD [5] (itR (vD 1)) (gN 5) (tB (bin eqA (oA (bin neA (vD 5) (vD 6))) (oA (bin gtD (oA (cal (calling 2 d__law_draw) (aC (vA 0) (aC (kA (.int 9)) (a0))))) (oA (kA (.int 0))))))) (vA 5)
noncomputable def c__law_relation_8 : Dn.Env → T AV := lcD [6] (itR (vD 1)) (gN 6) (lcTest0) (c__law_relation_7)
noncomputable def c__law_relation_9 : Dn.Env → T AV := lcD [5] (itR (vD 1)) (gN 5) (tB (bin geD (vD 5) (vD 6))) (vA 5)
noncomputable def c__law_relation_10 : Dn.Env → T AV := lcD [6] (itR (vD 1)) (gN 6) (lcTest0) (c__law_relation_9)
noncomputable def c__law_relation_11 : Dn.Env → T AV := lcD [10] (itS (vA 4)) (gN 10) (lcTest0) (cal tupleD (bC (vD 10) (b0)))
noncomputable def b__law_relation : Dn.Env → T Out := seqD (asgD (tupG 2 (consG (gN 2) (consG (gN 3) (g0)))) (cal mkTup (aC (cal (calling 2 d__law_draw) (aC (vA 0) (aC (kA (.int 5)) (a0)))) (aC (bin addD (oA (kA (.int 1))) (oA (cal (calling 2 d__law_draw) (aC (vA 0) (aC (kA (.int 4)) (a0)))))) (a0))))) (seqD (setD 4 (c__law_relation_1)) (seqD (ifD (tB (bin eqA (vD 2) (oA (kA (.int 0))))) (seqD (setD 4 (c__law_relation_2)) (forD (itR (oA (bin addD (oA (kA (.int 1))) (oA (cal (calling 2 d__law_draw) (aC (vA 0) (aC (kA (.int 3)) (a0)))))))) (gN 7) (lb__law_relation_0))) (sNil)) (seqD (ifD (tB (bin eqA (vD 2) (oA (kA (.int 1))))) (setD 4 (c__law_relation_8)) (sNil)) (seqD (ifD (tB (bin eqA (vD 2) (oA (kA (.int 2))))) (setD 4 (c__law_relation_10)) (sNil)) (sShare [4] (sRet (cal tupleD (bC (oA (c__law_relation_11)) (b0)))))))))
noncomputable def d__law_relation : List AV → T AV := shut (runD 2 11 b__law_relation)
theorem q__law_relation : d__law_relation = runD 2 11 b__law_relation := shut_eq _
theorem s__law_relation : FnScope ["pot", "things", "way", "much", "found", "late", "one", "turn", "lot", "last", "row"] ["pot", "things"] (defScope (LawHd.top 47)) := ⟨rfl, rfl, rfl, by decide +kernel, rfl, by decide +kernel, by decide +kernel⟩
theorem g__law_relation (M : Facts K mg) {base : Heap} (hb : Hb K mg base) : FnG P w K mg base (TbL K) (Cal P w K mg base (TbL K)) "_law_relation" (LawHd.top 47) ["pot", "things"] 2 d__law_relation := by
  rw [q__law_relation]
  obtain ⟨fd, F⟩ := M.f__law_relation
  refine fn_g (N := ["pot", "things", "way", "much", "found", "late", "one", "turn", "lot", "last", "row"]) F s__law_relation M.g__law_relation (by decide) (fun _ _ _ _ _ _ us hl => match us, hl with | [_, _], _ => rfl) fun cdv A outer s H hr hgd => ?_
  have hN : (["pot", "things", "way", "much", "found", "late", "one", "turn", "lot", "last", "row"] : List Str).Nodup := s__law_relation.nd
  have hu := room200 hr
  unfold b__law_relation
  exact psd_cons (psd_asg (ps_asg (pd_tup (pad_cons (pg_call (g__law_draw M hb) (hr.mono (by decide)) hgd (by exact rfl) (pad_cons (pd_var (pv 0)) (pad_cons (pd_int) (pad_nil)))) (pad_cons (pd_op op_addAll ok_add (pb_of (pd_int)) (pb_of (pg_call (g__law_draw M hb) (hr.mono (by decide)) hgd (by exact rfl) (pad_cons (pd_var (pv 0)) (pad_cons (pd_int) (pad_nil)))))) (pad_nil)))) (pgd_tup rfl (pgsd_cons (pgd_name (pg_name hN rfl (by first | exact Or.inl rfl | exact Or.inr rfl | exact Or.inr (Or.inl rfl) | exact Or.inr (Or.inr rfl)))) (pgsd_cons (pgd_name (pg_name hN rfl (by first | exact Or.inl rfl | exact Or.inr rfl | exact Or.inr (Or.inl rfl) | exact Or.inr (Or.inr rfl)))) (pgsd_nil)))).pg))
      (psd_cons (psd_setLc (own := [("one", 6)]) (g := gN 6) (t := lcTest0) (f := c__law_relation_0) rfl hN rfl rfl rfl (pid_range1 (by exact rfl) M.b_range (pb_var (pv 1))) (blkOk_by (by kernel_rfl)) (only_name) (fun _ _ _ _ _ => pgd_name (pg_name hN rfl (by first | exact Or.inl rfl | exact Or.inr rfl | exact Or.inr (Or.inl rfl) | exact Or.inr (Or.inr rfl)))) (fun _ _ _ _ _ => pts_d0) (fun _ _ _ _ _ => pd_lc (own := [("late", 5)]) (g := gN 5) (t := tB (bin ltD (oA (cal (calling 2 d__law_draw) (aC (vA 0) (aC (kA (.int 5)) (a0))))) (vD 3))) (f := vA 5) rfl hN (pid_range1 (by exact rfl) M.b_range (pb_var (pv 1))) (blkOk_by (by kernel_rfl)) (only_name) (fun _ _ _ _ _ => pgd_name (pg_name hN rfl (by first | exact Or.inl rfl | exact Or.inr rfl | exact Or.inr (Or.inl rfl) | exact Or.inr (Or.inr rfl)))) (fun _ _ _ _ _ => pts_d1 (ptd_cmp (Dn.OpR.or op_lt (op_ltD hu)) ok_ord (pb_of (pg_call (g__law_draw M hb) (hr.mono (by decide)) hgd (by exact rfl) (pad_cons (pd_var (pv 0)) (pad_cons (pd_int) (pad_nil))))) (pb_var (pv 3)) rfl)) (fun _ _ _ _ _ => pd_var (pv 5))))
      (psd_cons (psd_if (ptd_cmp (Dn.OpR.or op_eq (op_eqD (u64 hu))) ok_eqA (pb_var (pv 2)) (pb_of (pd_int)) rfl) (psd_cons (psd_setLc (own := [("one", 6)]) (g := gN 6) (t := lcTest0) (f := cal mkLst (a0)) rfl hN rfl rfl rfl (pid_range1 (by exact rfl) M.b_range (pb_var (pv 1))) (blkOk_by (by kernel_rfl)) (only_name) (fun _ _ _ _ _ => pgd_name (pg_name hN rfl (by first | exact Or.inl rfl | exact Or.inr rfl | exact Or.inr (Or.inl rfl) | exact Or.inr (Or.inr rfl)))) (fun _ _ _ _ _ => pts_d0) (fun _ _ _ _ _ => pd_lst (pad_nil)))
      (psd_one (psd_for PassesOwn.never rfl (pid_range1 (by exact rfl) M.b_range (pb_of (pd_op op_addAll ok_add (pb_of (pd_int)) (pb_of (pg_call (g__law_draw M hb) (hr.mono (by decide)) hgd (by exact rfl) (pad_cons (pd_var (pv 0)) (pad_cons (pd_int) (pad_nil)))))))) (pgd_name (pg_name hN rfl (by first | exact Or.inl rfl | exact Or.inr rfl | exact Or.inr (Or.inl rfl) | exact Or.inr (Or.inr rfl)))) (psd_cons (psd_asg (ps_asg (pd_tup (pad_cons (pd_lc (own := [("one", 6)]) (g := gN 6) (t := tB (bin eqA (oA (cal (calling 2 d__law_draw) (aC (vA 0) (aC (kA (.int 2)) (a0))))) (oA (kA (.int 0))))) (f := vA 6) rfl hN (pid_range1 (by exact rfl) M.b_range (pb_var (pv 1))) (blkOk_by (by kernel_rfl)) (only_name) (fun _ _ _ _ _ => pgd_name (pg_name hN rfl (by first | exact Or.inl rfl | exact Or.inr rfl | exact Or.inr (Or.inl rfl) | exact Or.inr (Or.inr rfl)))) (fun _ _ _ _ _ => pts_d1 (ptd_cmp (Dn.OpR.or op_eq (op_eqD (u64 hu))) ok_eqA (pb_of (pg_call (g__law_draw M hb) (hr.mono (by decide)) hgd (by exact rfl) (pad_cons (pd_var (pv 0)) (pad_cons (pd_int) (pad_nil))))) (pb_of (pd_int)) rfl)) (fun _ _ _ _ _ => pd_var (pv 6))) (pad_cons (pd_lc (own := [("one", 6)]) (g := gN 6) (t := tB (bin eqA (oA (cal (calling 2 d__law_draw) (aC (vA 0) (aC (kA (.int 2)) (a0))))) (oA (kA (.int 0))))) (f := vA 6) rfl hN (pid_range1 (by exact rfl) M.b_range (pb_var (pv 1))) (blkOk_by (by kernel_rfl)) (only_name) (fun _ _ _ _ _ => pgd_name (pg_name hN rfl (by first | exact Or.inl rfl | exact Or.inr rfl | exact Or.inr (Or.inl rfl) | exact Or.inr (Or.inr rfl)))) (fun _ _ _ _ _ => pts_d1 (ptd_cmp (Dn.OpR.or op_eq (op_eqD (u64 hu))) ok_eqA (pb_of (pg_call (g__law_draw M hb) (hr.mono (by decide)) hgd (by exact rfl) (pad_cons (pd_var (pv 0)) (pad_cons (pd_int) (pad_nil))))) (pb_of (pd_int)) rfl)) (fun _ _ _ _ _ => pd_var (pv 6))) (pad_nil)))) (pgd_tup rfl (pgsd_cons (pgd_name (pg_name hN rfl (by first | exact Or.inl rfl | exact Or.inr rfl | exact Or.inr (Or.inl rfl) | exact Or.inr (Or.inr rfl)))) (pgsd_cons (pgd_name (pg_name hN rfl (by first | exact Or.inl rfl | exact Or.inr rfl | exact Or.inr (Or.inl rfl) | exact Or.inr (Or.inr rfl)))) (pgsd_nil)))).pg))
      (psd_one (psd_share [4] (psd_setLc (own := [("one", 6), ("row", 10)]) (g := tupG 2 (consG (gN 6) (consG (gN 10) (g0)))) (t := lcTest0) (f := ifA (tB (bin (memD id) (vD 6) (vD 8))) (cal sortedD (bC (oA (bin addD (vD 10) (oA (c__law_relation_5)))) (b0))) (vA 10)) rfl hN rfl rfl rfl (pid_enum2 (by exact rfl) M.b_enumerate (pad_cons (pd_var (pv 4)) (pad_nil))) (blkOk_by (by kernel_rfl)) (only_tup (only_cons (only_name) (only_cons (only_name) (only_nil)))) (fun _ _ _ _ _ => pgd_tup rfl (pgsd_cons (pgd_name (pg_name hN rfl (by first | exact Or.inl rfl | exact Or.inr rfl | exact Or.inr (Or.inl rfl) | exact Or.inr (Or.inr rfl)))) (pgsd_cons (pgd_name (pg_name hN rfl (by first | exact Or.inl rfl | exact Or.inr rfl | exact Or.inr (Or.inl rfl) | exact Or.inr (Or.inr rfl)))) (pgsd_nil)))) (fun _ _ _ _ _ => pts_d0) (fun _ _ _ _ _ => pd_if (ptd_cmp (op_inA hu) ok_mem (pb_var (pv 6)) (pb_var (pv 8)) rfl) (pd_blt (cr_sortD hu) ok_sorted (by exact rfl) M.b_sorted (by decide +kernel) (pab_cons (pb_of (pd_op op_addAll ok_add (pb_var (pv 10)) (pb_of (pd_lc (own := [("last", 9)]) (g := gN 9) (t := tB (bin (memD not) (vD 9) (vD 10))) (f := vA 9) rfl hN (pid_seq (pd_var (pv 5))) (blkOk_by (by kernel_rfl)) (only_name) (fun _ _ _ _ _ => pgd_name (pg_name hN rfl (by first | exact Or.inl rfl | exact Or.inr rfl | exact Or.inr (Or.inl rfl) | exact Or.inr (Or.inr rfl)))) (fun _ _ _ _ _ => pts_d1 (ptd_cmp (op_notInA hu) ok_mem (pb_var (pv 9)) (pb_var (pv 10)) rfl)) (fun _ _ _ _ _ => pd_var (pv 9)))))) (pab_nil))) (pd_var (pv 10)))))))))) (psd_nil))
      (psd_cons (psd_if (ptd_cmp (Dn.OpR.or op_eq (op_eqD (u64 hu))) ok_eqA (pb_var (pv 2)) (pb_of (pd_int)) rfl) (psd_one (psd_setLc (own := [("one", 6)]) (g := gN 6) (t := lcTest0) (f := c__law_relation_7) rfl hN rfl rfl rfl (pid_range1 (by exact rfl) M.b_range (pb_var (pv 1))) (blkOk_by (by kernel_rfl)) (only_name) (fun _ _ _ _ _ => pgd_name (pg_name hN rfl (by first | exact Or.inl rfl | exact Or.inr rfl | exact Or.inr (Or.inl rfl) | exact Or.inr (Or.inr rfl)))) (fun _ _ _ _ _ => pts_d0) (fun _ _ _ _ _ => pd_lc (own := [("late", 5)]) (g := gN 5) (t := tB (bin eqA (oA (bin neA (vD 5) (vD 6))) (oA (bin gtD (oA (cal (calling 2 d__law_draw) (aC (vA 0) (aC (kA (.int 9)) (a0))))) (oA (kA (.int 0))))))) (f := vA 5) rfl hN (pid_range1 (by exact rfl) M.b_range (pb_var (pv 1))) (blkOk_by (by kernel_rfl)) (only_name) (fun _ _ _ _ _ => pgd_name (pg_name hN rfl (by first | exact Or.inl rfl | exact Or.inr rfl | exact Or.inr (Or.inl rfl) | exact Or.inr (Or.inr rfl)))) (fun _ _ _ _ _ => pts_d1 (ptd_cmp (Dn.OpR.or op_eq (op_eqD (u64 hu))) ok_eqA (pb_of (pd_cmp (Dn.OpR.or op_ne (op_neD (u64 hu))) ok_neA (pb_var (pv 5)) (pb_var (pv 6)) rfl)) (pb_of (pd_cmp (Dn.OpR.or op_gt (op_gtD hu)) ok_ord (pb_of (pg_call (g__law_draw M hb) (hr.mono (by decide)) hgd (by exact rfl) (pad_cons (pd_var (pv 0)) (pad_cons (pd_int) (pad_nil))))) (pb_of (pd_int)) rfl)) rfl)) (fun _ _ _ _ _ => pd_var (pv 5))))) (psd_nil))
      (psd_cons (psd_if (ptd_cmp (Dn.OpR.or op_eq (op_eqD (u64 hu))) ok_eqA (pb_var (pv 2)) (pb_of (pd_int)) rfl) (psd_one (psd_setLc (own := [("one", 6)]) (g := gN 6) (t := lcTest0) (f := c__law_relation_9) rfl hN rfl rfl rfl (pid_range1 (by exact rfl) M.b_range (pb_var (pv 1))) (blkOk_by (by kernel_rfl)) (only_name) (fun _ _ _ _ _ => pgd_name (pg_name hN rfl (by first | exact Or.inl rfl | exact Or.inr rfl | exact Or.inr (Or.inl rfl) | exact Or.inr (Or.inr rfl)))) (fun _ _ _ _ _ => pts_d0) (fun _ _ _ _ _ => pd_lc (own := [("late", 5)]) (g := gN 5) (t := tB (bin geD (vD 5) (vD 6))) (f := vA 5) rfl hN (pid_range1 (by exact rfl) M.b_range (pb_var (pv 1))) (blkOk_by (by kernel_rfl)) (only_name) (fun _ _ _ _ _ => pgd_name (pg_name hN rfl (by first | exact Or.inl rfl | exact Or.inr rfl | exact Or.inr (Or.inl rfl) | exact Or.inr (Or.inr rfl)))) (fun _ _ _ _ _ => pts_d1 (ptd_cmp (Dn.OpR.or op_ge (op_geD hu)) ok_ord (pb_var (pv 5)) (pb_var (pv 6)) rfl)) (fun _ _ _ _ _ => pd_var (pv 5))))) (psd_nil))
      (psd_one (psd_share [4] (psd_ret (pd_ty call_tuple_of ok_tuple (by exact rfl) M.b_tuple (by decide +kernel) (pab_cons (pb_of (pd_lc (own := [("row", 10)]) (g := gN 10) (t := lcTest0) (f := cal tupleD (bC (vD 10) (b0))) rfl hN (pid_seq (pd_var (pv 4))) (blkOk_by (by kernel_rfl)) (only_name) (fun _ _ _ _ _ => pgd_name (pg_name hN rfl (by first | exact Or.inl rfl | exact Or.inr rfl | exact Or.inr (Or.inl rfl) | exact Or.inr (Or.inr rfl)))) (fun _ _ _ _ _ => pts_d0) (fun _ _ _ _ _ => pd_ty call_tuple_of ok_tuple (by exact rfl) M.b_tuple (by decide +kernel) (pab_cons (pb_var (pv 10)) (pab_nil))))) (pab_nil))))))))))
noncomputable def c__law_pairs_0 : Dn.Env → T AV := lcD [4] (itS (vA 3)) (gN 4) (lcTest0) (cal mkTup (aC (vA 2) (aC (vA 4) (a0))))
noncomputable def lb__law_pairs_0 : Dn.Env → T Out := extD 1 (c__law_pairs_0)
noncomputable def b__law_pairs : Dn.Env → T Out := seqD (setD 1 (cal mkLst (a0))) (seqD (forD (itE2 (aC (vA 0) (a0))) (tupG 2 (consG (gN 2) (consG (gN 3) (g0)))) (lb__law_pairs_0)) (sShare [1] (sRet (vA 1))))
noncomputable def d__law_pairs : List AV → T AV := shut (runD 1 5 b__law_pairs)
theorem q__law_pairs : d__law_pairs = runD 1 5 b__law_pairs := shut_eq _
theorem s__law_pairs : FnScope ["relation", "found", "one", "row", "late"] ["relation"] (defScope (LawHd.top 48)) := ⟨rfl, rfl, rfl, by decide +kernel, rfl, by decide +kernel, by decide +kernel⟩
theorem g__law_pairs (M : Facts K mg) {base : Heap} (hb : Hb K mg base) : FnG P w K mg base (TbL K) (Cal P w K mg base (TbL K)) "_law_pairs" (LawHd.top 48) ["relation"] 1 d__law_pairs := by
  rw [q__law_pairs]
  obtain ⟨fd, F⟩ := M.f__law_pairs
  refine fn_g (N := ["relation", "found", "one", "row", "late"]) F s__law_pairs M.g__law_pairs (by decide) (fun _ _ _ _ _ _ us hl => match us, hl with | [_], _ => rfl) fun cdv A outer s H hr hgd => ?_
  have hN : (["relation", "found", "one", "row", "late"] : List Str).Nodup := s__law_pairs.nd
  have hu := room200 hr
  unfold b__law_pairs
  exact psd_cons (psd_set (ps_set hN rfl (by first | exact Or.inl rfl | exact Or.inr rfl | exact Or.inr (Or.inl rfl) | exact Or.inr (Or.inr rfl)) (pd_lst (pad_nil))))
      (psd_cons (psd_for PassesOwn.never rfl (pid_enum2 (by exact rfl) M.b_enumerate (pad_cons (pd_var (pv 0)) (pad_nil))) (pgd_tup rfl (pgsd_cons (pgd_name (pg_name hN rfl (by first | exact Or.inl rfl | exact Or.inr rfl | exact Or.inr (Or.inl rfl) | exact Or.inr (Or.inr rfl)))) (pgsd_cons (pgd_name (pg_name hN rfl (by first | exact Or.inl rfl | exact Or.inr rfl | exact Or.inr (Or.inl rfl) | exact Or.inr (Or.inr rfl)))) (pgsd_nil)))) (psd_one (psd_extend (pv 1) (pd_lc (own := [("late", 4)]) (g := gN 4) (t := lcTest0) (f := cal mkTup (aC (vA 2) (aC (vA 4) (a0)))) rfl hN (pid_seq (pd_var (pv 3))) (blkOk_by (by kernel_rfl)) (only_name) (fun _ _ _ _ _ => pgd_name (pg_name hN rfl (by first | exact Or.inl rfl | exact Or.inr rfl | exact Or.inr (Or.inl rfl) | exact Or.inr (Or.inr rfl)))) (fun _ _ _ _ _ => pts_d0) (fun _ _ _ _ _ => pd_tup (pad_cons (pd_var (pv 2)) (pad_cons (pd_var (pv 4)) (pad_nil))))))))
      (psd_one (psd_share [1] (psd_ret (pd_var (pv 1))))))
noncomputable def c__law_lots_0 : Dn.Env → T AV := lcD [3] (itS (vA 1)) (gN 3) (lcTest0) (bin addD (vD 3) (oA (cal mkTup (aC (vA 2) (a0)))))
noncomputable def lb__law_lots_0 : Dn.Env → T Out := setD 1 (fzA (bin addD (vD 1) (oA (c__law_lots_0))))
noncomputable def b__law_lots : Dn.Env → T Out := seqD (setD 1 (fzA (cal mkLst (aC (cal mkTup (a0)) (a0))))) (seqD (forD (itR (vD 0)) (gN 2) (lb__law_lots_0)) (sRet (cal sortedD (bC (vD 1) (b0)))))
noncomputable def d__law_lots : List AV → T AV := shut (runD 1 4 b__law_lots)
theorem q__law_lots : d__law_lots = runD 1 4 b__law_lots := shut_eq _
theorem s__law_lots : FnScope ["things", "found", "one", "lot"] ["things"] (defScope (LawHd.top 49)) := ⟨rfl, rfl, rfl, by decide +kernel, rfl, by decide +kernel, by decide +kernel⟩
theorem g__law_lots (M : Facts K mg) {base : Heap} (hb : Hb K mg base) : FnG P w K mg base (TbL K) (Cal P w K mg base (TbL K)) "_law_lots" (LawHd.top 49) ["things"] 1 d__law_lots := by
  rw [q__law_lots]
  obtain ⟨fd, F⟩ := M.f__law_lots
  refine fn_g (N := ["things", "found", "one", "lot"]) F s__law_lots M.g__law_lots (by decide) (fun _ _ _ _ _ _ us hl => match us, hl with | [_], _ => rfl) fun cdv A outer s H hr hgd => ?_
  have hN : (["things", "found", "one", "lot"] : List Str).Nodup := s__law_lots.nd
  have hu := room200 hr
  unfold b__law_lots
  exact psd_cons (psd_set (ps_set hN rfl (by first | exact Or.inl rfl | exact Or.inr rfl | exact Or.inr (Or.inl rfl) | exact Or.inr (Or.inr rfl)) (pd_frz (pd_lst (pad_cons (pd_tup (pad_nil)) (pad_nil))))))
      (psd_cons (psd_for PassesOwn.never rfl (pid_range1 (by exact rfl) M.b_range (pb_var (pv 0))) (pgd_name (pg_name hN rfl (by first | exact Or.inl rfl | exact Or.inr rfl | exact Or.inr (Or.inl rfl) | exact Or.inr (Or.inr rfl)))) (psd_one (psd_set (ps_set hN rfl (by first | exact Or.inl rfl | exact Or.inr rfl | exact Or.inr (Or.inl rfl) | exact Or.inr (Or.inr rfl)) (pd_frz (pd_op op_addAll ok_add (pb_var (pv 1)) (pb_of (pd_lc (own := [("lot", 3)]) (g := gN 3) (t := lcTest0) (f := bin addD (vD 3) (oA (cal mkTup (aC (vA 2) (a0))))) rfl hN (pid_seq (pd_var (pv 1))) (blkOk_by (by kernel_rfl)) (only_name) (fun _ _ _ _ _ => pgd_name (pg_name hN rfl (by first | exact Or.inl rfl | exact Or.inr rfl | exact Or.inr (Or.inl rfl) | exact Or.inr (Or.inr rfl)))) (fun _ _ _ _ _ => pts_d0) (fun _ _ _ _ _ => pd_op op_addAll ok_add (pb_var (pv 3)) (pb_of (pd_tup (pad_cons (pd_var (pv 2)) (pad_nil)))))))))))))
      (psd_one (psd_ret (pd_blt (cr_sortD hu) ok_sorted (by exact rfl) M.b_sorted (by decide +kernel) (pab_cons (pb_var (pv 1)) (pab_nil))))))
noncomputable def c__law_common_0 : Dn.Env → T AV := lcD [3] (itS (vA 1)) (gN 3) (lcTest0) (bin (memD id) (vD 2) (oA (bin ixD (vD 0) (vD 3))))
noncomputable def c__law_common_1 : Dn.Env → T AV := lcD [2] (itR (oA (cal lenD (bC (vD 0) (b0))))) (gN 2) (tB (cal allD (bC (oA (c__law_common_0)) (b0)))) (vA 2)
noncomputable def b__law_common : Dn.Env → T Out := sRet (cal tupleD (bC (oA (c__law_common_1)) (b0)))
noncomputable def d__law_common : List AV → T AV := shut (runD 2 4 b__law_common)
theorem q__law_common : d__law_common = runD 2 4 b__law_common := shut_eq _
theorem s__law_common : FnScope ["relation", "lot", "last", "one"] ["relation", "lot"] (defScope (LawHd.top 50)) := ⟨rfl, rfl, rfl, by decide +kernel, rfl, by decide +kernel, by decide +kernel⟩
theorem g__law_common (M : Facts K mg) {base : Heap} (hb : Hb K mg base) : FnG P w K mg base (TbL K) (Cal P w K mg base (TbL K)) "_law_common" (LawHd.top 50) ["relation", "lot"] 1 d__law_common := by
  rw [q__law_common]
  obtain ⟨fd, F⟩ := M.f__law_common
  refine fn_g (N := ["relation", "lot", "last", "one"]) F s__law_common M.g__law_common (by decide) (fun _ _ _ _ _ _ us hl => match us, hl with | [_, _], _ => rfl) fun cdv A outer s H hr hgd => ?_
  have hN : (["relation", "lot", "last", "one"] : List Str).Nodup := s__law_common.nd
  have hu := room200 hr
  unfold b__law_common
  exact psd_one (psd_ret (pd_ty call_tuple_of ok_tuple (by exact rfl) M.b_tuple (by decide +kernel) (pab_cons (pb_of (pd_lc (own := [("last", 2)]) (g := gN 2) (t := tB (cal allD (bC (oA (c__law_common_0)) (b0)))) (f := vA 2) rfl hN (pid_range1 (by exact rfl) M.b_range (pb_of (pd_blt call_len_seq ok_len (by exact rfl) M.b_len (by decide +kernel) (pab_cons (pb_var (pv 0)) (pab_nil))))) (blkOk_by (by kernel_rfl)) (only_name) (fun _ _ _ _ _ => pgd_name (pg_name hN rfl (by first | exact Or.inl rfl | exact Or.inr rfl | exact Or.inr (Or.inl rfl) | exact Or.inr (Or.inr rfl)))) (fun _ _ _ _ _ => pts_d1 (ptd_val (pd_blt (cr_all rfl) ok_bools (by exact rfl) M.b_all (by decide +kernel) (pab_cons (pb_of (pd_lc (own := [("one", 3)]) (g := gN 3) (t := lcTest0) (f := bin (memD id) (vD 2) (oA (bin ixD (vD 0) (vD 3)))) rfl hN (pid_seq (pd_var (pv 1))) (blkOk_by (by kernel_rfl)) (only_name) (fun _ _ _ _ _ => pgd_name (pg_name hN rfl (by first | exact Or.inl rfl | exact Or.inr rfl | exact Or.inr (Or.inl rfl) | exact Or.inr (Or.inr rfl)))) (fun _ _ _ _ _ => pts_d0) (fun _ _ _ _ _ => pd_cmp (op_inA hu) ok_mem (pb_var (pv 2)) (pb_of (pd_ix ix_seq ok_ix (pb_var (pv 0)) (pb_var (pv 3)) (by intro _ _; rfl))) rfl))) (pab_nil))))) (fun _ _ _ _ _ => pd_var (pv 2)))) (pab_nil))))
noncomputable def c__law_standing_0 : Dn.Env → T AV := lcD [4] (itS (vA 1)) (gN 4) (lcTest0) (bin (memD id) (vD 4) (vD 3))
noncomputable def c__law_standing_1 : Dn.Env → T AV := lcD [2, 3] (itE2 (aC (vA 0) (a0))) (tupG 2 (consG (gN 2) (consG (gN 3) (g0)))) (tB (cal allD (bC (oA (c__law_standing_0)) (b0)))) (vA 2)
noncomputable def b__law_standing : Dn.Env → T Out := sRet (cal tupleD (bC (oA (c__law_standing_1)) (b0)))
noncomputable def d__law_standing : List AV → T AV := shut (runD 2 5 b__law_standing)
theorem q__law_standing : d__law_standing = runD 2 5 b__law_standing := shut_eq _
theorem s__law_standing : FnScope ["relation", "lot", "one", "row", "last"] ["relation", "lot"] (defScope (LawHd.top 51)) := ⟨rfl, rfl, rfl, by decide +kernel, rfl, by decide +kernel, by decide +kernel⟩
theorem g__law_standing (M : Facts K mg) {base : Heap} (hb : Hb K mg base) : FnG P w K mg base (TbL K) (Cal P w K mg base (TbL K)) "_law_standing" (LawHd.top 51) ["relation", "lot"] 1 d__law_standing := by
  rw [q__law_standing]
  obtain ⟨fd, F⟩ := M.f__law_standing
  refine fn_g (N := ["relation", "lot", "one", "row", "last"]) F s__law_standing M.g__law_standing (by decide) (fun _ _ _ _ _ _ us hl => match us, hl with | [_, _], _ => rfl) fun cdv A outer s H hr hgd => ?_
  have hN : (["relation", "lot", "one", "row", "last"] : List Str).Nodup := s__law_standing.nd
  have hu := room200 hr
  unfold b__law_standing
  exact psd_one (psd_ret (pd_ty call_tuple_of ok_tuple (by exact rfl) M.b_tuple (by decide +kernel) (pab_cons (pb_of (pd_lc (own := [("one", 2), ("row", 3)]) (g := tupG 2 (consG (gN 2) (consG (gN 3) (g0)))) (t := tB (cal allD (bC (oA (c__law_standing_0)) (b0)))) (f := vA 2) rfl hN (pid_enum2 (by exact rfl) M.b_enumerate (pad_cons (pd_var (pv 0)) (pad_nil))) (blkOk_by (by kernel_rfl)) (only_tup (only_cons (only_name) (only_cons (only_name) (only_nil)))) (fun _ _ _ _ _ => pgd_tup rfl (pgsd_cons (pgd_name (pg_name hN rfl (by first | exact Or.inl rfl | exact Or.inr rfl | exact Or.inr (Or.inl rfl) | exact Or.inr (Or.inr rfl)))) (pgsd_cons (pgd_name (pg_name hN rfl (by first | exact Or.inl rfl | exact Or.inr rfl | exact Or.inr (Or.inl rfl) | exact Or.inr (Or.inr rfl)))) (pgsd_nil)))) (fun _ _ _ _ _ => pts_d1 (ptd_val (pd_blt (cr_all rfl) ok_bools (by exact rfl) M.b_all (by decide +kernel) (pab_cons (pb_of (pd_lc (own := [("last", 4)]) (g := gN 4) (t := lcTest0) (f := bin (memD id) (vD 4) (vD 3)) rfl hN (pid_seq (pd_var (pv 1))) (blkOk_by (by kernel_rfl)) (only_name) (fun _ _ _ _ _ => pgd_name (pg_name hN rfl (by first | exact Or.inl rfl | exact Or.inr rfl | exact Or.inr (Or.inl rfl) | exact Or.inr (Or.inr rfl)))) (fun _ _ _ _ _ => pts_d0) (fun _ _ _ _ _ => pd_cmp (op_inA hu) ok_mem (pb_var (pv 4)) (pb_var (pv 3)) rfl))) (pab_nil))))) (fun _ _ _ _ _ => pd_var (pv 2)))) (pab_nil))))
noncomputable def b__law_is_whole : Dn.Env → T Out := sRet (andA (isA "int" (vD 0)) (nA (isA "bool" (vD 0))))
noncomputable def d__law_is_whole : List AV → T AV := shut (runD 1 1 b__law_is_whole)
theorem q__law_is_whole : d__law_is_whole = runD 1 1 b__law_is_whole := shut_eq _
theorem s__law_is_whole : FnScope ["value"] ["value"] (defScope (LawHd.top 52)) := ⟨rfl, rfl, rfl, by decide +kernel, rfl, by decide +kernel, by decide +kernel⟩
theorem g__law_is_whole (M : Facts K mg) {base : Heap} (hb : Hb K mg base) : FnG P w K mg base (TbL K) (Cal P w K mg base (TbL K)) "_law_is_whole" (LawHd.top 52) ["value"] 1 d__law_is_whole := by
  rw [q__law_is_whole]
  obtain ⟨fd, F⟩ := M.f__law_is_whole
  refine fn_g (N := ["value"]) F s__law_is_whole M.g__law_is_whole (by decide) (fun _ _ _ _ _ _ us hl => match us, hl with | [_], _ => rfl) fun cdv A outer s H hr hgd => ?_
  have hN : (["value"] : List Str).Nodup := s__law_is_whole.nd
  have hu := room200 hr
  unfold b__law_is_whole
  exact psd_one (psd_ret (pd_and (pd_isi (pb_var (pv 0)) (by exact rfl) M.b_isinstance (by exact rfl) M.b_int (by decide +kernel) kit_int) (pd_one (pd_not (pd_isi (pb_var (pv 0)) (by exact rfl) M.b_isinstance (by exact rfl) M.b_bool (by decide +kernel) kit_bool)))))
noncomputable def c__law_is_lot_0 : Dn.Env → T AV := lcD [2] (itS (vA 1)) (gN 2) (lcTest0) (andA (cal (calling 1 d__law_is_whole) (aC (vA 2) (a0))) (chA leD ltD (oA (kA (.int 0))) (vD 2) (vD 0)))
noncomputable def c__law_is_lot_1 : Dn.Env → T AV := lcD [3, 4] (itZ (aC (vA 1) (aC (slA (vD 1) (oI (oA (kA (.int 1)))) (o0)) (a0)))) (tupG 2 (consG (gN 3) (consG (gN 4) (g0)))) (lcTest0) (bin ltD (vD 3) (vD 4))
noncomputable def b__law_is_lot : Dn.Env → T Out := seqD (ifD (tOr (tNot (tB (isA "tuple" (vD 1)))) (tNot (tB (cal allD (bC (oA (c__law_is_lot_0)) (b0)))))) (sRet (kA (.bool false))) (sNil)) (sRet (cal allD (bC (oA (c__law_is_lot_1)) (b0))))
noncomputable def d__law_is_lot : List AV → T AV := shut (runD 2 5 b__law_is_lot)
theorem q__law_is_lot : d__law_is_lot = runD 2 5 b__law_is_lot := shut_eq _
theorem s__law_is_lot : FnScope ["things", "value", "one", "near", "far"] ["things", "value"] (defScope (LawHd.top 53)) := ⟨rfl, rfl, rfl, by decide +kernel, rfl, by decide +kernel, by decide +kernel⟩
theorem g__law_is_lot (M : Facts K mg) {base : Heap} (hb : Hb K mg base) : FnG P w K mg base (TbL K) (Cal P w K mg base (TbL K)) "_law_is_lot" (LawHd.top 53) ["things", "value"] 2 d__law_is_lot := by
  rw [q__law_is_lot]
  obtain ⟨fd, F⟩ := M.f__law_is_lot
  refine fn_g (N := ["things", "value", "one", "near", "far"]) F s__law_is_lot M.g__law_is_lot (by decide) (fun _ _ _ _ _ _ us hl => match us, hl with | [_, _], _ => rfl) fun cdv A outer s H hr hgd => ?_
  have hN : (["things", "value", "one", "near", "far"] : List Str).Nodup := s__law_is_lot.nd
  have hu := room200 hr
  unfold b__law_is_lot
  exact psd_cons (psd_if (PW.pt (pwd_or (ptd_not (ptd_val (pd_isi (pb_var (pv 1)) (by exact rfl) M.b_isinstance (by exact rfl) M.b_tuple (by decide +kernel) kit_tuple))) (pwd_or1 (ptd_not (ptd_val (pd_blt (cr_all rfl) ok_bools (by exact rfl) M.b_all (by decide +kernel) (pab_cons (pb_of (pd_lc (own := [("one", 2)]) (g := gN 2) (t := lcTest0) (f := andA (cal (calling 1 d__law_is_whole) (aC (vA 2) (a0))) (chA leD ltD (oA (kA (.int 0))) (vD 2) (vD 0))) rfl hN (pid_seq (pd_var (pv 1))) (blkOk_by (by kernel_rfl)) (only_name) (fun _ _ _ _ _ => pgd_name (pg_name hN rfl (by first | exact Or.inl rfl | exact Or.inr rfl | exact Or.inr (Or.inl rfl) | exact Or.inr (Or.inr rfl)))) (fun _ _ _ _ _ => pts_d0) (fun _ _ _ _ _ => pd_and (pg_call (g__law_is_whole M hb) (hr.mono (by decide)) hgd (by exact rfl) (pad_cons (pd_var (pv 2)) (pad_nil))) (pd_one (ptd_chain (Dn.OpR.or op_le (op_leD hu)) (Dn.OpR.or op_lt (op_ltD hu)) ok_ord ok_ord (pb_of (pd_int)) (pb_var (pv 2)) (pb_var (pv 0))))))) (pab_nil)))))))) (psd_one (psd_ret (pd_bl))) (psd_nil))
      (psd_one (psd_ret (pd_blt (cr_all rfl) ok_bools (by exact rfl) M.b_all (by decide +kernel) (pab_cons (pb_of (pd_lc (own := [("near", 3), ("far", 4)]) (g := tupG 2 (consG (gN 3) (consG (gN 4) (g0)))) (t := lcTest0) (f := bin ltD (vD 3) (vD 4)) rfl hN (pid_zip (by exact rfl) M.b_zip (pad_cons (pd_var (pv 1)) (pad_cons (pd_slice (pb_var (pv 1)) (po_some' (pb_of (pd_int))) (po_none')) (pad_nil)))) (blkOk_by (by kernel_rfl)) (only_tup (only_cons (only_name) (only_cons (only_name) (only_nil)))) (fun _ _ _ _ _ => pgd_tup rfl (pgsd_cons (pgd_name (pg_name hN rfl (by first | exact Or.inl rfl | exact Or.inr rfl | exact Or.inr (Or.inl rfl) | exact Or.inr (Or.inr rfl)))) (pgsd_cons (pgd_name (pg_name hN rfl (by first | exact Or.inl rfl | exact Or.inr rfl | exact Or.inr (Or.inl rfl) | exact Or.inr (Or.inr rfl)))) (pgsd_nil)))) (fun _ _ _ _ _ => pts_d0) (fun _ _ _ _ _ => pd_cmp (Dn.OpR.or op_lt (op_ltD hu)) ok_ord (pb_var (pv 3)) (pb_var (pv 4)) rfl))) (pab_nil)))))
noncomputable def b__law_are_lots : Dn.Env → T Out := sRet (andA (isA "tuple" (vD 1)) (andA (bin eqA (oA (cal lenD (bC (vD 1) (b0)))) (oA (kA (.int 2)))) (andA (cal (calling 2 d__law_is_lot) (aC (vA 0) (aC (bin ixD (vD 1) (oA (kA (.int 0)))) (a0)))) (cal (calling 2 d__law_is_lot) (aC (vA 0) (aC (bin ixD (vD 1) (oA (kA (.int 1)))) (a0)))))))
noncomputable def d__law_are_lots : List AV → T AV := shut (runD 2 2 b__law_are_lots)
theorem q__law_are_lots : d__law_are_lots = runD 2 2 b__law_are_lots := shut_eq _
theorem s__law_are_lots : FnScope ["things", "value"] ["things", "value"] (defScope (LawHd.top 54)) := ⟨rfl, rfl, rfl, by decide +kernel, rfl, by decide +kernel, by decide +kernel⟩
theorem g__law_are_lots (M : Facts K mg) {base : Heap} (hb : Hb K mg base) : FnG P w K mg base (TbL K) (Cal P w K mg base (TbL K)) "_law_are_lots" (LawHd.top 54) ["things", "value"] 3 d__law_are_lots := by
  rw [q__law_are_lots]
  obtain ⟨fd, F⟩ := M.f__law_are_lots
  refine fn_g (N := ["things", "value"]) F s__law_are_lots M.g__law_are_lots (by decide) (fun _ _ _ _ _ _ us hl => match us, hl with | [_, _], _ => rfl) fun cdv A outer s H hr hgd => ?_
  have hN : (["things", "value"] : List Str).Nodup := s__law_are_lots.nd
  have hu := room200 hr
  unfold b__law_are_lots
  exact psd_one (psd_ret (pd_and (pd_isi (pb_var (pv 1)) (by exact rfl) M.b_isinstance (by exact rfl) M.b_tuple (by decide +kernel) kit_tuple) (pd_and (pd_cmp (Dn.OpR.or op_eq (op_eqD (u64 hu))) ok_eqA (pb_of (pd_blt call_len_seq ok_len (by exact rfl) M.b_len (by decide +kernel) (pab_cons (pb_var (pv 1)) (pab_nil)))) (pb_of (pd_int)) rfl) (pd_and (pg_call (g__law_is_lot M hb) (hr.mono (by decide)) hgd (by exact rfl) (pad_cons (pd_var (pv 0)) (pad_cons (pd_ix ix_seq ok_ix (pb_var (pv 1)) (pb_of (pd_int)) (by intro _ _; rfl)) (pad_nil)))) (pd_one (pg_call (g__law_is_lot M hb) (hr.mono (by decide)) hgd (by exact rfl) (pad_cons (pd_var (pv 0)) (pad_cons (pd_ix ix_seq ok_ix (pb_var (pv 1)) (pb_of (pd_int)) (by intro _ _; rfl)) (pad_nil)))))))))
noncomputable def c__law_is_block_0 : Dn.Env → T AV := lcD [2] (itS (bin ixD (vD 1) (oA (kA (.int 1))))) (gN 2) (lcTest0) (bin (memD id) (vD 2) (oA (cal (calling 2 d__law_common) (aC (vA 0) (aC (bin ixD (vD 1) (oA (kA (.int 0)))) (a0))))))
noncomputable def b__law_is_block : Dn.Env → T Out := seqD (ifD (tOr (tNot (tB (cal (calling 2 d__law_are_lots) (aC (cal lenD (bC (vD 0) (b0))) (aC (vA 1) (a0)))))) (tOr (tB (bin eqA (oA (bin ixD (vD 1) (oA (kA (.int 0))))) (oA (cal mkTup (a0))))) (tB (bin eqA (oA (bin ixD (vD 1) (oA (kA (.int 1))))) (oA (cal mkTup (a0))))))) (sRet (kA (.bool false))) (sNil)) (sRet (cal allD (bC (oA (c__law_is_block_0)) (b0))))
noncomputable def d__law_is_block : List AV → T AV := shut (runD 2 3 b__law_is_block)
theorem q__law_is_block : d__law_is_block = runD 2 3 b__law_is_block := shut_eq _
theorem s__law_is_block : FnScope ["relation", "value", "last"] ["relation", "value"] (defScope (LawHd.top 55)) := ⟨rfl, rfl, rfl, by decide +kernel, rfl, by decide +kernel, by decide +kernel⟩
theorem g__law_is_block (M : Facts K mg) {base : Heap} (hb : Hb K mg base) : FnG P w K mg base (TbL K) (Cal P w K mg base (TbL K)) "_law_is_block" (LawHd.top 55) ["relation", "value"] 4 d__law_is_block := by
  rw [q__law_is_block]
  obtain ⟨fd, F⟩ := M.f__law_is_block
  refine fn_g (N := ["relation", "value", "last"]) F s__law_is_block M.g__law_is_block (by decide) (fun _ _ _ _ _ _ us hl => match us, hl with | [_, _], _ => rfl) fun cdv A outer s H hr hgd => ?_
  have hN : (["relation", "value", "last"] : List Str).Nodup := s__law_is_block.nd
  have hu := room200 hr
  unfold b__law_is_block
  exact psd_cons (psd_if (PW.pt (pwd_or (ptd_not (ptd_val (pg_call (g__law_are_lots M hb) (hr.mono (by decide)) hgd (by exact rfl) (pad_cons (pd_blt call_len_seq ok_len (by exact rfl) M.b_len (by decide +kernel) (pab_cons (pb_var (pv 0)) (pab_nil))) (pad_cons (pd_var (pv 1)) (pad_nil)))))) (pwd_or (ptd_cmp (Dn.OpR.or op_eq (op_eqD (u64 hu))) ok_eqA (pb_of (pd_ix ix_seq ok_ix (pb_var (pv 1)) (pb_of (pd_int)) (by intro _ _; rfl))) (pb_of (pd_tup (pad_nil))) rfl) (pwd_or1 (ptd_cmp (Dn.OpR.or op_eq (op_eqD (u64 hu))) ok_eqA (pb_of (pd_ix ix_seq ok_ix (pb_var (pv 1)) (pb_of (pd_int)) (by intro _ _; rfl))) (pb_of (pd_tup (pad_nil))) rfl))))) (psd_one (psd_ret (pd_bl))) (psd_nil))
      (psd_one (psd_ret (pd_blt (cr_all rfl) ok_bools (by exact rfl) M.b_all (by decide +kernel) (pab_cons (pb_of (pd_lc (own := [("last", 2)]) (g := gN 2) (t := lcTest0) (f := bin (memD id) (vD 2) (oA (cal (calling 2 d__law_common) (aC (vA 0) (aC (bin ixD (vD 1) (oA (kA (.int 0)))) (a0)))))) rfl hN (pid_seq (pd_ix ix_seq ok_ix (pb_var (pv 1)) (pb_of (pd_int)) (by intro _ _; rfl))) (blkOk_by (by kernel_rfl)) (only_name) (fun _ _ _ _ _ => pgd_name (pg_name hN rfl (by first | exact Or.inl rfl | exact Or.inr rfl | exact Or.inr (Or.inl rfl) | exact Or.inr (Or.inr rfl)))) (fun _ _ _ _ _ => pts_d0) (fun _ _ _ _ _ => pd_cmp (op_inA hu) ok_mem (pb_var (pv 2)) (pb_of (pg_call (g__law_common M hb) (hr.mono (by decide)) hgd (by exact rfl) (pad_cons (pd_var (pv 0)) (pad_cons (pd_ix ix_seq ok_ix (pb_var (pv 1)) (pb_of (pd_int)) (by intro _ _; rfl)) (pad_nil))))) rfl))) (pab_nil)))))
noncomputable def c__law_turned_0 : Dn.Env → T AV := lcD [1] (itR (oA (cal lenD (bC (vD 0) (b0))))) (gN 1) (lcTest0) (cal (calling 2 d__law_standing) (aC (vA 0) (aC (cal mkTup (aC (vA 1) (a0))) (a0))))
noncomputable def b__law_turned : Dn.Env → T Out := sRet (cal tupleD (bC (oA (c__law_turned_0)) (b0)))
noncomputable def d__law_turned : List AV → T AV := shut (runD 1 2 b__law_turned)
theorem q__law_turned : d__law_turned = runD 1 2 b__law_turned := shut_eq _
theorem s__law_turned : FnScope ["relation", "last"] ["relation"] (defScope (LawHd.top 56)) := ⟨rfl, rfl, rfl, by decide +kernel, rfl, by decide +kernel, by decide +kernel⟩
theorem g__law_turned (M : Facts K mg) {base : Heap} (hb : Hb K mg base) : FnG P w K mg base (TbL K) (Cal P w K mg base (TbL K)) "_law_turned" (LawHd.top 56) ["relation"] 2 d__law_turned := by
  rw [q__law_turned]
  obtain ⟨fd, F⟩ := M.f__law_turned
  refine fn_g (N := ["relation", "last"]) F s__law_turned M.g__law_turned (by decide) (fun _ _ _ _ _ _ us hl => match us, hl with | [_], _ => rfl) fun cdv A outer s H hr hgd => ?_
  have hN : (["relation", "last"] : List Str).Nodup := s__law_turned.nd
  have hu := room200 hr
  unfold b__law_turned
  exact psd_one (psd_ret (pd_ty call_tuple_of ok_tuple (by exact rfl) M.b_tuple (by decide +kernel) (pab_cons (pb_of (pd_lc (own := [("last", 1)]) (g := gN 1) (t := lcTest0) (f := cal (calling 2 d__law_standing) (aC (vA 0) (aC (cal mkTup (aC (vA 1) (a0))) (a0)))) rfl hN (pid_range1 (by exact rfl) M.b_range (pb_of (pd_blt call_len_seq ok_len (by exact rfl) M.b_len (by decide +kernel) (pab_cons (pb_var (pv 0)) (pab_nil))))) (blkOk_by (by kernel_rfl)) (only_name) (fun _ _ _ _ _ => pgd_name (pg_name hN rfl (by first | exact Or.inl rfl | exact Or.inr rfl | exact Or.inr (Or.inl rfl) | exact Or.inr (Or.inr rfl)))) (fun _ _ _ _ _ => pts_d0) (fun _ _ _ _ _ => pg_call (g__law_standing M hb) (hr.mono (by decide)) hgd (by exact rfl) (pad_cons (pd_var (pv 0)) (pad_cons (pd_tup (pad_cons (pd_var (pv 1)) (pad_nil))) (pad_nil)))))) (pab_nil))))
noncomputable def c__law_lots_right_0 : Dn.Env → T AV := lcD [14] (itS (bin ixD (vD 10) (oA (kA (.int 0))))) (gN 14) (tB (bin (memD id) (vD 14) (oA (bin ixD (vD 11) (oA (kA (.int 0))))))) (vA 14)
noncomputable def c__law_lots_right_1 : Dn.Env → T AV := lcD [13] (itS (vA 3)) (gN 13) (tB (bin eqA (oA (cal listD (bC (oA (bin ixD (vD 13) (oA (kA (.int 0))))) (b0)))) (oA (c__law_lots_right_0)))) (vA 13)
noncomputable def c__law_lots_right_2 : Dn.Env → T AV := lcD [14] (itS (bin ixD (vD 10) (oA (kA (.int 1))))) (gN 14) (tB (bin (memD id) (vD 14) (oA (bin ixD (vD 11) (oA (kA (.int 1))))))) (vA 14)
noncomputable def c__law_lots_right_3 : Dn.Env → T AV := lcD [13] (itS (vA 3)) (gN 13) (tB (bin eqA (oA (cal listD (bC (oA (bin ixD (vD 13) (oA (kA (.int 1))))) (b0)))) (oA (c__law_lots_right_2)))) (vA 13)
noncomputable def lb__law_lots_right_0 : Dn.Env → T Out := seqD (setD 5 (fzA (cal (calling 2 d__law_pick) (aC (vA 0) (aC (vA 2) (a0)))))) (seqD (setD 6 (fzA (cal (calling 2 d__law_common) (aC (vA 1) (aC (vA 5) (a0)))))) (seqD (parD 7 8 (fzA (cal mkTup (aC (cal (calling 2 d__law_standing) (aC (vA 1) (aC (vA 6) (a0)))) (aC (vA 6) (a0))))) (fzA (cal (calling 2 d__law_standing) (aC (vA 1) (aC (vA 5) (a0)))))) (seqD (setD 9 (fzA (cal mkTup (aC (vA 8) (aC (cal (calling 2 d__law_common) (aC (vA 1) (aC (vA 8) (a0)))) (a0)))))) (seqD (ifD (tB (bin neA (oA (reprL (bC (oA (cal (calling 2 d_block_from) (aC (vA 1) (aC (vA 5) (a0))))) (bC (oA (calK 2 d_block_from [1, 0] (aC (vA 5) (aC (vA 1) (a0))))) (bC (oA (cal (calling 2 d_block_to) (aC (vA 1) (aC (vA 5) (a0))))) (bC (oA (calK 2 d_block_to [1, 0] (aC (vA 5) (aC (vA 1) (a0))))) (b0))))))) (oA (reprL (bC (vD 7) (bC (vD 7) (bC (vD 9) (bC (vD 9) (b0))))))))) (sRet (kA (.bool false))) (sNil)) (seqD (ifD (tOr (tB (bin (memD not) (vD 7) (vD 3))) (tOr (tB (bin (memD not) (vD 9) (vD 3))) (tOr (tB (bin neA (oA (cal (calling 2 d_lot_of_all) (aC (vA 1) (aC (vA 5) (a0))))) (vD 6))) (tB (bin (isBD not) (oA (cal (calling 2 d_is_closed_couple) (aC (vA 1) (aC (vA 7) (a0))))) (oA (kA (.bool true)))))))) (sRet (kA (.bool false))) (sNil)) (seqD (asgD (tupG 2 (consG (gN 10) (consG (gN 11) (g0)))) (cal mkTup (aC (cal (calling 2 d__law_pick) (aC (vA 0) (aC (vA 3) (a0)))) (aC (cal (calling 2 d__law_pick) (aC (vA 0) (aC (vA 3) (a0)))) (a0))))) (seqD (setD 12 (c__law_lots_right_1)) (seqD (setD 15 (c__law_lots_right_3)) (seqD (ifD (tOr (tB (bin neA (oA (cal lenD (bC (vD 12) (b0)))) (oA (kA (.int 1))))) (tOr (tB (bin neA (oA (cal lenD (bC (vD 15) (b0)))) (oA (kA (.int 1))))) (tB (bin neA (oA (reprL (bC (oA (cal (calling 3 d_couples_met) (aC (vA 1) (aC (vA 10) (aC (vA 11) (a0)))))) (bC (oA (calK 3 d_couples_met [2, 1, 0] (aC (vA 11) (aC (vA 10) (aC (vA 1) (a0)))))) (b0))))) (oA (cal reprD (bC (oA (mulOwn 12 (oA (kA (.int 2))))) (b0)))))))) (sRet (kA (.bool false))) (sNil)) (ifD (tB (bin neA (oA (reprL (bC (oA (cal (calling 3 d_couples_joined) (aC (vA 1) (aC (vA 10) (aC (vA 11) (a0)))))) (bC (oA (calK 3 d_couples_joined [2, 1, 0] (aC (vA 11) (aC (vA 10) (aC (vA 1) (a0)))))) (b0))))) (oA (cal reprD (bC (oA (mulOwn 15 (oA (kA (.int 2))))) (b0)))))) (sRet (kA (.bool false))) (sNil)))))))))))
noncomputable def b__law_lots_right : Dn.Env → T Out := seqD (forD (itR (oA (kA (.int 4)))) (gN 4) (lb__law_lots_right_0)) (sRet (kA (.bool true)))
noncomputable def d__law_lots_right : List AV → T AV := shut (runD 4 16 b__law_lots_right)
theorem q__law_lots_right : d__law_lots_right = runD 4 16 b__law_lots_right := shut_eq _
theorem s__law_lots_right : FnScope ["pot", "relation", "lots", "couples", "turn", "lot", "late", "near", "first", "far", "one", "other", "met", "couple", "x", "joined"] ["pot", "relation", "lots", "couples"] (defScope (LawHd.top 58)) := ⟨rfl, rfl, rfl, by decide +kernel, rfl, by decide +kernel, by decide +kernel⟩
theorem g__law_lots_right (M : Facts K mg) {base : Heap} (hb : Hb K mg base) : FnG P w K mg base (TbL K) (Cal P w K mg base (TbL K)) "_law_lots_right" (LawHd.top 58) ["pot", "relation", "lots", "couples"] 8 d__law_lots_right := by
  rw [q__law_lots_right]
  obtain ⟨fd, F⟩ := M.f__law_lots_right
  refine fn_g (N := ["pot", "relation", "lots", "couples", "turn", "lot", "late", "near", "first", "far", "one", "other", "met", "couple", "x", "joined"]) F s__law_lots_right M.g__law_lots_right (by decide) (fun _ _ _ _ _ _ us hl => match us, hl with | [_, _, _, _], _ => rfl) fun cdv A outer s H hr hgd => ?_
  have hN : (["pot", "relation", "lots", "couples", "turn", "lot", "late", "near", "first", "far", "one", "other", "met", "couple", "x", "joined"] : List Str).Nodup := s__law_lots_right.nd
  have hu := room200 hr
  unfold b__law_lots_right
  exact psd_cons (psd_for PassesOwn.never rfl (pid_range1 (by exact rfl) M.b_range (pb_of (pd_int))) (pgd_name (pg_name hN rfl (by first | exact Or.inl rfl | exact Or.inr rfl | exact Or.inr (Or.inl rfl) | exact Or.inr (Or.inr rfl)))) (psd_cons (psd_set (ps_set hN rfl (by first | exact Or.inl rfl | exact Or.inr rfl | exact Or.inr (Or.inl rfl) | exact Or.inr (Or.inr rfl)) (pd_frz (pg_call (g__law_pick M hb) (hr.mono (by decide)) hgd (by exact rfl) (pad_cons (pd_var (pv 0)) (pad_cons (pd_var (pv 2)) (pad_nil)))))))
      (psd_cons (psd_set (ps_set hN rfl (by first | exact Or.inl rfl | exact Or.inr rfl | exact Or.inr (Or.inl rfl) | exact Or.inr (Or.inr rfl)) (pd_frz (pg_call (g__law_common M hb) (hr.mono (by decide)) hgd (by exact rfl) (pad_cons (pd_var (pv 1)) (pad_cons (pd_var (pv 5)) (pad_nil)))))))
      (psd_cons (psd_par rfl hN rfl rfl (by decide) rfl rfl (pd_frz (pd_tup (pad_cons (pg_call (g__law_standing M hb) (hr.mono (by decide)) hgd (by exact rfl) (pad_cons (pd_var (pv 1)) (pad_cons (pd_var (pv 6)) (pad_nil)))) (pad_cons (pd_var (pv 6)) (pad_nil))))) (pd_frz (pg_call (g__law_standing M hb) (hr.mono (by decide)) hgd (by exact rfl) (pad_cons (pd_var (pv 1)) (pad_cons (pd_var (pv 5)) (pad_nil))))) rfl)
      (psd_cons (psd_set (ps_set hN rfl (by first | exact Or.inl rfl | exact Or.inr rfl | exact Or.inr (Or.inl rfl) | exact Or.inr (Or.inr rfl)) (pd_frz (pd_tup (pad_cons (pd_var (pv 8)) (pad_cons (pg_call (g__law_common M hb) (hr.mono (by decide)) hgd (by exact rfl) (pad_cons (pd_var (pv 1)) (pad_cons (pd_var (pv 8)) (pad_nil)))) (pad_nil)))))))
      (psd_cons (psd_if (ptd_cmp (Dn.OpR.or op_ne (op_neD (u64 hu))) ok_neA (pb_of (pd_reprL hgd hu (by exact rfl) M.b_repr (pab_cons (pb_of (pg_call (g_block_from M hb) (hr.mono (by decide)) hgd (by exact rfl) (pad_cons (pd_var (pv 1)) (pad_cons (pd_var (pv 5)) (pad_nil))))) (pab_cons (pb_of (pg_callK0 (ks := ["lot", "relation"]) [1, 0] (g_block_from M hb) (hr.mono (by decide)) hgd (by exact rfl) (fun _ _ _ _ _ _ us ws hl hus => by subst hus; exact match ws, hl with | _ :: _ :: _, _ => rfl) (pkd_cons (pd_var (pv 5)) (pkd_cons (pd_var (pv 1)) (pkd_nil))))) (pab_cons (pb_of (pg_call (g_block_to M hb) (hr.mono (by decide)) hgd (by exact rfl) (pad_cons (pd_var (pv 1)) (pad_cons (pd_var (pv 5)) (pad_nil))))) (pab_cons (pb_of (pg_callK0 (ks := ["lot", "relation"]) [1, 0] (g_block_to M hb) (hr.mono (by decide)) hgd (by exact rfl) (fun _ _ _ _ _ _ us ws hl hus => by subst hus; exact match ws, hl with | _ :: _ :: _, _ => rfl) (pkd_cons (pd_var (pv 5)) (pkd_cons (pd_var (pv 1)) (pkd_nil))))) (pab_nil))))))) (pb_of (pd_reprL hgd hu (by exact rfl) M.b_repr (pab_cons (pb_var (pv 7)) (pab_cons (pb_var (pv 7)) (pab_cons (pb_var (pv 9)) (pab_cons (pb_var (pv 9)) (pab_nil))))))) rfl) (psd_one (psd_ret (pd_bl))) (psd_nil))
      (psd_cons (psd_if (PW.pt (pwd_or (ptd_cmp (op_notInA hu) ok_mem (pb_var (pv 7)) (pb_var (pv 3)) rfl) (pwd_or (ptd_cmp (op_notInA hu) ok_mem (pb_var (pv 9)) (pb_var (pv 3)) rfl) (pwd_or (ptd_cmp (Dn.OpR.or op_ne (op_neD (u64 hu))) ok_neA (pb_of (pg_call (g_lot_of_all M hb) (hr.mono (by decide)) hgd (by exact rfl) (pad_cons (pd_var (pv 1)) (pad_cons (pd_var (pv 5)) (pad_nil))))) (pb_var (pv 6)) rfl) (pwd_or1 (ptd_cmp op_notBl ok_notB (pb_of (pg_call (g_is_closed_couple M hb) (hr.mono (by decide)) hgd (by exact rfl) (pad_cons (pd_var (pv 1)) (pad_cons (pd_var (pv 7)) (pad_nil))))) (pb_of (pd_bl)) rfl)))))) (psd_one (psd_ret (pd_bl))) (psd_nil))
      (psd_cons (psd_asg (ps_asg (pd_tup (pad_cons (pg_call (g__law_pick M hb) (hr.mono (by decide)) hgd (by exact rfl) (pad_cons (pd_var (pv 0)) (pad_cons (pd_var (pv 3)) (pad_nil)))) (pad_cons (pg_call (g__law_pick M hb) (hr.mono (by decide)) hgd (by exact rfl) (pad_cons (pd_var (pv 0)) (pad_cons (pd_var (pv 3)) (pad_nil)))) (pad_nil)))) (pgd_tup rfl (pgsd_cons (pgd_name (pg_name hN rfl (by first | exact Or.inl rfl | exact Or.inr rfl | exact Or.inr (Or.inl rfl) | exact Or.inr (Or.inr rfl)))) (pgsd_cons (pgd_name (pg_name hN rfl (by first | exact Or.inl rfl | exact Or.inr rfl | exact Or.inr (Or.inl rfl) | exact Or.inr (Or.inr rfl)))) (pgsd_nil)))).pg))
      (psd_cons (psd_setLc (own := [("couple", 13)]) (g := gN 13) (t := tB (bin eqA (oA (cal listD (bC (oA (bin ixD (vD 13) (oA (kA (.int 0))))) (b0)))) (oA (c__law_lots_right_0)))) (f := vA 13) rfl hN rfl rfl rfl (pid_seq (pd_var (pv 3))) (blkOk_by (by kernel_rfl)) (only_name) (fun _ _ _ _ _ => pgd_name (pg_name hN rfl (by first | exact Or.inl rfl | exact Or.inr rfl | exact Or.inr (Or.inl rfl) | exact Or.inr (Or.inr rfl)))) (fun _ _ _ _ _ => pts_d1 (ptd_cmp (Dn.OpR.or op_eq (op_eqD (u64 hu))) ok_eqA (pb_of (pd_ty call_list_of ok_list (by exact rfl) M.b_list (by decide +kernel) (pab_cons (pb_of (pd_ix ix_seq ok_ix (pb_var (pv 13)) (pb_of (pd_int)) (by intro _ _; rfl))) (pab_nil)))) (pb_of (pd_lc (own := [("x", 14)]) (g := gN 14) (t := tB (bin (memD id) (vD 14) (oA (bin ixD (vD 11) (oA (kA (.int 0))))))) (f := vA 14) rfl hN (pid_seq (pd_ix ix_seq ok_ix (pb_var (pv 10)) (pb_of (pd_int)) (by intro _ _; rfl))) (blkOk_by (by kernel_rfl)) (only_name) (fun _ _ _ _ _ => pgd_name (pg_name hN rfl (by first | exact Or.inl rfl | exact Or.inr rfl | exact Or.inr (Or.inl rfl) | exact Or.inr (Or.inr rfl)))) (fun _ _ _ _ _ => pts_d1 (ptd_cmp (op_inA hu) ok_mem (pb_var (pv 14)) (pb_of (pd_ix ix_seq ok_ix (pb_var (pv 11)) (pb_of (pd_int)) (by intro _ _; rfl))) rfl)) (fun _ _ _ _ _ => pd_var (pv 14)))) rfl)) (fun _ _ _ _ _ => pd_var (pv 13)))
      (psd_cons (psd_setLc (own := [("couple", 13)]) (g := gN 13) (t := tB (bin eqA (oA (cal listD (bC (oA (bin ixD (vD 13) (oA (kA (.int 1))))) (b0)))) (oA (c__law_lots_right_2)))) (f := vA 13) rfl hN rfl rfl rfl (pid_seq (pd_var (pv 3))) (blkOk_by (by kernel_rfl)) (only_name) (fun _ _ _ _ _ => pgd_name (pg_name hN rfl (by first | exact Or.inl rfl | exact Or.inr rfl | exact Or.inr (Or.inl rfl) | exact Or.inr (Or.inr rfl)))) (fun _ _ _ _ _ => pts_d1 (ptd_cmp (Dn.OpR.or op_eq (op_eqD (u64 hu))) ok_eqA (pb_of (pd_ty call_list_of ok_list (by exact rfl) M.b_list (by decide +kernel) (pab_cons (pb_of (pd_ix ix_seq ok_ix (pb_var (pv 13)) (pb_of (pd_int)) (by intro _ _; rfl))) (pab_nil)))) (pb_of (pd_lc (own := [("x", 14)]) (g := gN 14) (t := tB (bin (memD id) (vD 14) (oA (bin ixD (vD 11) (oA (kA (.int 1))))))) (f := vA 14) rfl hN (pid_seq (pd_ix ix_seq ok_ix (pb_var (pv 10)) (pb_of (pd_int)) (by intro _ _; rfl))) (blkOk_by (by kernel_rfl)) (only_name) (fun _ _ _ _ _ => pgd_name (pg_name hN rfl (by first | exact Or.inl rfl | exact Or.inr rfl | exact Or.inr (Or.inl rfl) | exact Or.inr (Or.inr rfl)))) (fun _ _ _ _ _ => pts_d1 (ptd_cmp (op_inA hu) ok_mem (pb_var (pv 14)) (pb_of (pd_ix ix_seq ok_ix (pb_var (pv 11)) (pb_of (pd_int)) (by intro _ _; rfl))) rfl)) (fun _ _ _ _ _ => pd_var (pv 14)))) rfl)) (fun _ _ _ _ _ => pd_var (pv 13)))
      (psd_cons (psd_if (PW.pt (pwd_or (ptd_cmp (Dn.OpR.or op_ne (op_neD (u64 hu))) ok_neA (pb_of (pd_blt call_len_seq ok_len (by exact rfl) M.b_len (by decide +kernel) (pab_cons (pb_var (pv 12)) (pab_nil)))) (pb_of (pd_int)) rfl) (pwd_or (ptd_cmp (Dn.OpR.or op_ne (op_neD (u64 hu))) ok_neA (pb_of (pd_blt call_len_seq ok_len (by exact rfl) M.b_len (by decide +kernel) (pab_cons (pb_var (pv 15)) (pab_nil)))) (pb_of (pd_int)) rfl) (pwd_or1 (ptd_cmp (Dn.OpR.or op_ne (op_neD (u64 hu))) ok_neA (pb_of (pd_reprL hgd hu (by exact rfl) M.b_repr (pab_cons (pb_of (pg_call (g_couples_met M hb) (hr.mono (by decide)) hgd (by exact rfl) (pad_cons (pd_var (pv 1)) (pad_cons (pd_var (pv 10)) (pad_cons (pd_var (pv 11)) (pad_nil)))))) (pab_cons (pb_of (pg_callK0 (ks := ["late", "one", "relation"]) [2, 1, 0] (g_couples_met M hb) (hr.mono (by decide)) hgd (by exact rfl) (fun _ _ _ _ _ _ us ws hl hus => by subst hus; exact match ws, hl with | _ :: _ :: _ :: _, _ => rfl) (pkd_cons (pd_var (pv 11)) (pkd_cons (pd_var (pv 10)) (pkd_cons (pd_var (pv 1)) (pkd_nil)))))) (pab_nil))))) (pb_of (pd_blt (cr_reprD hgd hu) ok_repr (by exact rfl) M.b_repr (by decide +kernel) (pab_cons (pb_of (pd_mulOwn (pv 12) (pb_of (pd_int)))) (pab_nil)))) rfl))))) (psd_one (psd_ret (pd_bl))) (psd_nil))
      (psd_one (psd_if (ptd_cmp (Dn.OpR.or op_ne (op_neD (u64 hu))) ok_neA (pb_of (pd_reprL hgd hu (by exact rfl) M.b_repr (pab_cons (pb_of (pg_call (g_couples_joined M hb) (hr.mono (by decide)) hgd (by exact rfl) (pad_cons (pd_var (pv 1)) (pad_cons (pd_var (pv 10)) (pad_cons (pd_var (pv 11)) (pad_nil)))))) (pab_cons (pb_of (pg_callK0 (ks := ["late", "one", "relation"]) [2, 1, 0] (g_couples_joined M hb) (hr.mono (by decide)) hgd (by exact rfl) (fun _ _ _ _ _ _ us ws hl hus => by subst hus; exact match ws, hl with | _ :: _ :: _ :: _, _ => rfl) (pkd_cons (pd_var (pv 11)) (pkd_cons (pd_var (pv 10)) (pkd_cons (pd_var (pv 1)) (pkd_nil)))))) (pab_nil))))) (pb_of (pd_blt (cr_reprD hgd hu) ok_repr (by exact rfl) M.b_repr (by decide +kernel) (pab_cons (pb_of (pd_mulOwn (pv 15) (pb_of (pd_int)))) (pab_nil)))) rfl) (psd_one (psd_ret (pd_bl))) (psd_nil))))))))))))))
      (psd_one (psd_ret (pd_bl)))
noncomputable def c__law_relation_right_0 : Dn.Env → T AV := lcD [6] (itS (vA 4)) (gN 6) (lcTest0) (cal (calling 2 d__law_common) (aC (vA 1) (aC (vA 6) (a0))))
noncomputable def c__law_relation_right_1 : Dn.Env → T AV := lcD [6, 8] (itZ (aC (vA 4) (aC (vA 5) (a0)))) (tupG 2 (consG (gN 6) (consG (gN 8) (g0)))) (tB (bin neA (vD 6) (oA (cal mkTup (a0))))) (bin subD (oA (cal lenD (bC (oA (cal (calling 1 d__law_lots) (aC (cal lenD (bC (vD 8) (b0))) (a0)))) (b0)))) (oA (kA (.int 1))))
noncomputable def c__law_relation_right_2 : Dn.Env → T AV := lcD [6, 8] (itZ (aC (vA 4) (aC (vA 5) (a0)))) (tupG 2 (consG (gN 6) (consG (gN 8) (g0)))) (tB (bin eqA (oA (cal (calling 2 d__law_standing) (aC (vA 1) (aC (vA 8) (a0))))) (vD 6))) (cal mkTup (aC (vA 6) (aC (vA 8) (a0))))
noncomputable def c__law_relation_right_3 : Dn.Env → T AV := lcD [6, 11] (itS (vA 9)) (tupG 2 (consG (gN 6) (consG (gN 11) (g0)))) (tAnd (tB (bin neA (vD 6) (oA (cal mkTup (a0))))) (tB (bin neA (vD 11) (oA (cal mkTup (a0)))))) (cal mkTup (aC (vA 6) (aC (vA 11) (a0))))
noncomputable def c__law_relation_right_4 : Dn.Env → T AV := lcD [14] (itS (slA (vD 4) (oI (oA (kA (.int 1)))) (o0))) (gN 14) (tB (cal (calling 2 d__law_is_block) (aC (vA 1) (aC (cal mkTup (aC (vA 6) (aC (vA 14) (a0)))) (a0))))) (cal mkTup (aC (vA 6) (aC (vA 14) (a0))))
noncomputable def lb__law_relation_right_0 : Dn.Env → T Out := extD 13 (c__law_relation_right_4)
noncomputable def c__law_relation_right_5 : Dn.Env → T AV := lcD [18] (itS (vA 14)) (gN 18) (lcTest0) (bin (memD id) (vD 18) (vD 17))
noncomputable def c__law_relation_right_6 : Dn.Env → T AV := lcD [18] (itS (vA 6)) (gN 18) (lcTest0) (bin (memD id) (vD 18) (vD 16))
noncomputable def c__law_relation_right_7 : Dn.Env → T AV := lcD [16, 17] (itS (vA 13)) (tupG 2 (consG (gN 16) (consG (gN 17) (g0)))) (tAnd (tB (cal allD (bC (oA (c__law_relation_right_6)) (b0)))) (tB (cal allD (bC (oA (c__law_relation_right_5)) (b0))))) (kA (.int 1))
noncomputable def c__law_relation_right_8 : Dn.Env → T AV := lcD [6, 14] (itS (vA 13)) (tupG 2 (consG (gN 6) (consG (gN 14) (g0)))) (tB (bin eqA (oA (cal lenD (bC (oA (c__law_relation_right_7)) (b0)))) (oA (kA (.int 1))))) (cal mkTup (aC (vA 6) (aC (vA 14) (a0))))
noncomputable def c__law_relation_right_9 : Dn.Env → T AV := lcD [16] (itS (vA 13)) (gN 16) (tB (cal (calling 2 d_is_greatest_block) (aC (vA 1) (aC (vA 16) (a0))))) (vA 16)
noncomputable def c__law_relation_right_10 : Dn.Env → T AV := lcD [6, 14] (itS (vA 10)) (tupG 2 (consG (gN 6) (consG (gN 14) (g0)))) (lcTest0) (bin mulX (oA (cal lenD (bC (vD 6) (b0)))) (oA (cal lenD (bC (vD 14) (b0)))))
noncomputable def c__law_relation_right_11 : Dn.Env → T AV := lcD [6, 14] (itS (vA 10)) (tupG 2 (consG (gN 6) (consG (gN 14) (g0)))) (tB (bin eqA (oA (bin mulX (oA (cal lenD (bC (vD 6) (b0)))) (oA (cal lenD (bC (vD 14) (b0)))))) (vD 19))) (cal mkTup (aC (vA 6) (aC (vA 14) (a0))))
noncomputable def c__law_relation_right_12 : Dn.Env → T AV := lcD [6, 17] (itS (vA 10)) (tupG 2 (consG (gN 6) (consG (gN 17) (g0)))) (lcTest0) (andA (bin (memD id) (vD 16) (vD 6)) (bin (memD id) (vD 14) (vD 17)))
noncomputable def c__law_relation_right_13 : Dn.Env → T AV := lcD [16, 14] (itS (cal (calling 1 d__law_pairs) (aC (vA 1) (a0)))) (tupG 2 (consG (gN 16) (consG (gN 14) (g0)))) (lcTest0) (cal anyD (bC (oA (c__law_relation_right_12)) (b0)))
noncomputable def c__law_relation_right_14 : Dn.Env → T AV := lcD [6, 17] (itS (cal (calling 1 d_closed_couples) (aC (vA 21) (a0)))) (tupG 2 (consG (gN 6) (consG (gN 17) (g0)))) (lcTest0) (cal mkTup (aC (vA 17) (aC (vA 6) (a0))))
noncomputable def b__law_relation_right : Dn.Env → T Out := seqD (parD 2 3 (fzA (cal lenD (bC (vD 1) (b0)))) (fzA (cal reprD (bC (vD 1) (b0))))) (seqD (setD 4 (fzA (cal (calling 1 d__law_lots) (aC (vA 2) (a0))))) (seqD (setD 5 (c__law_relation_right_0)) (seqD (sShare [5] (setD 7 (fzA (cal sumD (bC (oA (c__law_relation_right_1)) (b0)))))) (seqD (ifD (tB (bin neA (oA (reprL (bC (oA (cal (calling 1 d_many_full_blocks) (aC (vA 1) (a0)))) (bC (oA (calK 1 d_many_full_blocks [0] (aC (vA 1) (a0)))) (b0))))) (oA (reprL (bC (vD 7) (bC (vD 7) (b0))))))) (sRet (kA (.bool false))) (sNil)) (seqD (sShare [5] (setD 9 (c__law_relation_right_2))) (seqD (sShare [9] (setD 10 (fzA (c__law_relation_right_3)))) (seqD (parD 12 11 (cal (calling 1 d_closed_couples) (aC (vA 1) (a0))) (cal (calling 1 d_greatest_blocks) (aC (vA 1) (a0)))) (seqD (ifD (tB (bin neA (oA (reprL (bC (vD 12) (bC (oA (calK 1 d_closed_couples [0] (aC (vA 1) (a0)))) (bC (vD 11) (bC (oA (calK 1 d_greatest_blocks [0] (aC (vA 1) (a0)))) (b0))))))) (oA (reprL (bC (vD 9) (bC (vD 9) (bC (vD 10) (bC (vD 10) (b0))))))))) (sRet (kA (.bool false))) (sNil)) (seqD (appD 12 (xO (kA .none))) (seqD (appD 11 (xO (kA .none))) (seqD (ifD (tB (bin ltD (vD 2) (oA (kA (.int 5))))) (seqD (setD 13 (cal mkLst (a0))) (seqD (forD (itS (slA (vD 4) (oI (oA (kA (.int 1)))) (o0))) (gN 6) (lb__law_relation_right_0)) (seqD (ifD (tB (bin neA (oA (cal lenD (bC (vD 13) (b0)))) (vD 7))) (sRet (kA (.bool false))) (sNil)) (seqD (sShare [13] (setD 15 (c__law_relation_right_8))) (sShare [13] (ifD (tOr (tB (bin neA (vD 15) (vD 10))) (tB (bin neA (oA (c__law_relation_right_9)) (vD 10)))) (sRet (kA (.bool false))) (sNil))))))) (sNil)) (seqD (setD 19 (fzA (cal (bestD PySem.W.maxD) (bC (oA (bin addD (oA (cal mkLst (aC (kA (.int 0)) (a0)))) (oA (c__law_relation_right_10)))) (b0))))) (seqD (setD 20 (c__law_relation_right_11)) (seqD (setD 20 (fzA (ifA (tB (bin neA (vD 20) (oA (cal mkLst (a0))))) (bin ixD (vD 20) (oA (kA (.int 0)))) (kA .none)))) (seqD (ifD (tB (bin neA (oA (reprL (bC (oA (cal (calling 1 d_widest_block) (aC (vA 1) (a0)))) (bC (oA (calK 1 d_widest_block [0] (aC (vA 1) (a0)))) (b0))))) (oA (reprL (bC (vD 20) (bC (vD 20) (b0))))))) (sRet (kA (.bool false))) (sNil)) (seqD (ifD (tNot (tB (cal allD (bC (oA (c__law_relation_right_13)) (b0))))) (sRet (kA (.bool false))) (sNil)) (seqD (setD 21 (fzA (cal (calling 1 d_turned) (aC (vA 1) (a0))))) (seqD (ifD (tOr (tB (bin neA (vD 21) (oA (cal (calling 1 d__law_turned) (aC (vA 1) (a0)))))) (tOr (tB (bin neA (oA (cal sortedD (bC (oA (c__law_relation_right_14)) (b0)))) (vD 9))) (tB (bin neA (oA (cal (calling 1 d_many_full_blocks) (aC (vA 21) (a0)))) (vD 7))))) (sRet (kA (.bool false))) (sNil)) (sShare [9] (sRet (andA (cal (calling 4 d__law_lots_right) (aC (vA 0) (aC (vA 1) (aC (vA 4) (aC (vA 9) (a0)))))) (andA (bin eqA (oA (cal reprD (bC (vD 1) (b0)))) (vD 3)) (bin eqA (oA (cal reprD (bC (oA (cal (calling 1 d_closed_couples) (aC (vA 1) (a0)))) (b0)))) (oA (cal reprD (bC (vD 9) (b0)))))))))))))))))))))))))))
noncomputable def d__law_relation_right : List AV → T AV := shut (runD 2 22 b__law_relation_right)
theorem q__law_relation_right : d__law_relation_right = runD 2 22 b__law_relation_right := shut_eq _
theorem s__law_relation_right : FnScope ["pot", "relation", "things", "shown", "lots", "commons", "lot", "many", "common", "couples", "great", "late", "told", "blocks", "last", "most", "one", "far", "x", "wide", "best", "about"] ["pot", "relation"] (defScope (LawHd.top 57)) := ⟨rfl, rfl, rfl, by decide +kernel, rfl, by decide +kernel, by decide +kernel⟩
theorem g__law_relation_right (M : Facts K mg) {base : Heap} (hb : Hb K mg base) : FnG P w K mg base (TbL K) (Cal P w K mg base (TbL K)) "_law_relation_right" (LawHd.top 57) ["pot", "relation"] 28 d__law_relation_right := by
  rw [q__law_relation_right]
  obtain ⟨fd, F⟩ := M.f__law_relation_right
  refine fn_g (N := ["pot", "relation", "things", "shown", "lots", "commons", "lot", "many", "common", "couples", "great", "late", "told", "blocks", "last", "most", "one", "far", "x", "wide", "best", "about"]) F s__law_relation_right M.g__law_relation_right (by decide) (fun _ _ _ _ _ _ us hl => match us, hl with | [_, _], _ => rfl) fun cdv A outer s H hr hgd => ?_
  have hN : (["pot", "relation", "things", "shown", "lots", "commons", "lot", "many", "common", "couples", "great", "late", "told", "blocks", "last", "most", "one", "far", "x", "wide", "best", "about"] : List Str).Nodup := s__law_relation_right.nd
  have hu := room200 hr
  unfold b__law_relation_right
  exact psd_cons (psd_par rfl hN rfl rfl (by decide) rfl rfl (pd_frz (pd_blt call_len_seq ok_len (by exact rfl) M.b_len (by decide +kernel) (pab_cons (pb_var (pv 1)) (pab_nil)))) (pd_frz (pd_blt (cr_reprD hgd hu) ok_repr (by exact rfl) M.b_repr (by decide +kernel) (pab_cons (pb_var (pv 1)) (pab_nil)))) rfl)
      (psd_cons (psd_set (ps_set hN rfl (by first | exact Or.inl rfl | exact Or.inr rfl | exact Or.inr (Or.inl rfl) | exact Or.inr (Or.inr rfl)) (pd_frz (pg_call (g__law_lots M hb) (hr.mono (by decide)) hgd (by exact rfl) (pad_cons (pd_var (pv 2)) (pad_nil))))))
      (psd_cons (psd_setLc (own := [("lot", 6)]) (g := gN 6) (t := lcTest0) (f := cal (calling 2 d__law_common) (aC (vA 1) (aC (vA 6) (a0)))) rfl hN rfl rfl rfl (pid_seq (pd_var (pv 4))) (blkOk_by (by kernel_rfl)) (only_name) (fun _ _ _ _ _ => pgd_name (pg_name hN rfl (by first | exact Or.inl rfl | exact Or.inr rfl | exact Or.inr (Or.inl rfl) | exact Or.inr (Or.inr rfl)))) (fun _ _ _ _ _ => pts_d0) (fun _ _ _ _ _ => pg_call (g__law_common M hb) (hr.mono (by decide)) hgd (by exact rfl) (pad_cons (pd_var (pv 1)) (pad_cons (pd_var (pv 6)) (pad_nil)))))
      (psd_cons (psd_share [5] (psd_set (ps_set hN rfl (by first | exact Or.inl rfl | exact Or.inr rfl | exact Or.inr (Or.inl rfl) | exact Or.inr (Or.inr rfl)) (pd_frz (pd_blt (cr_sum rfl) ok_sum (by exact rfl) M.b_sum (by decide +kernel) (pab_cons (pb_of (pd_lc (own := [("lot", 6), ("common", 8)]) (g := tupG 2 (consG (gN 6) (consG (gN 8) (g0)))) (t := tB (bin neA (vD 6) (oA (cal mkTup (a0))))) (f := bin subD (oA (cal lenD (bC (oA (cal (calling 1 d__law_lots) (aC (cal lenD (bC (vD 8) (b0))) (a0)))) (b0)))) (oA (kA (.int 1)))) rfl hN (pid_zip (by exact rfl) M.b_zip (pad_cons (pd_var (pv 4)) (pad_cons (pd_var (pv 5)) (pad_nil)))) (blkOk_by (by kernel_rfl)) (only_tup (only_cons (only_name) (only_cons (only_name) (only_nil)))) (fun _ _ _ _ _ => pgd_tup rfl (pgsd_cons (pgd_name (pg_name hN rfl (by first | exact Or.inl rfl | exact Or.inr rfl | exact Or.inr (Or.inl rfl) | exact Or.inr (Or.inr rfl)))) (pgsd_cons (pgd_name (pg_name hN rfl (by first | exact Or.inl rfl | exact Or.inr rfl | exact Or.inr (Or.inl rfl) | exact Or.inr (Or.inr rfl)))) (pgsd_nil)))) (fun _ _ _ _ _ => pts_d1 (ptd_cmp (Dn.OpR.or op_ne (op_neD (u64 hu))) ok_neA (pb_var (pv 6)) (pb_of (pd_tup (pad_nil))) rfl)) (fun _ _ _ _ _ => pd_op op_sub ok_sub (pb_of (pd_blt call_len_seq ok_len (by exact rfl) M.b_len (by decide +kernel) (pab_cons (pb_of (pg_call (g__law_lots M hb) (hr.mono (by decide)) hgd (by exact rfl) (pad_cons (pd_blt call_len_seq ok_len (by exact rfl) M.b_len (by decide +kernel) (pab_cons (pb_var (pv 8)) (pab_nil))) (pad_nil)))) (pab_nil)))) (pb_of (pd_int))))) (pab_nil)))))))
      (psd_cons (psd_if (ptd_cmp (Dn.OpR.or op_ne (op_neD (u64 hu))) ok_neA (pb_of (pd_reprL hgd hu (by exact rfl) M.b_repr (pab_cons (pb_of (pg_call (g_many_full_blocks M hb) (hr.mono (by decide)) hgd (by exact rfl) (pad_cons (pd_var (pv 1)) (pad_nil)))) (pab_cons (pb_of (pg_callK0 (ks := ["relation"]) [0] (g_many_full_blocks M hb) (hr.mono (by decide)) hgd (by exact rfl) (fun _ _ _ _ _ _ us ws hl hus => by subst hus; exact match ws, hl with | _ :: _, _ => rfl) (pkd_cons (pd_var (pv 1)) (pkd_nil)))) (pab_nil))))) (pb_of (pd_reprL hgd hu (by exact rfl) M.b_repr (pab_cons (pb_var (pv 7)) (pab_cons (pb_var (pv 7)) (pab_nil))))) rfl) (psd_one (psd_ret (pd_bl))) (psd_nil))
      (psd_cons (psd_share [5] (psd_setLc (own := [("lot", 6), ("common", 8)]) (g := tupG 2 (consG (gN 6) (consG (gN 8) (g0)))) (t := tB (bin eqA (oA (cal (calling 2 d__law_standing) (aC (vA 1) (aC (vA 8) (a0))))) (vD 6))) (f := cal mkTup (aC (vA 6) (aC (vA 8) (a0)))) rfl hN rfl rfl rfl (pid_zip (by exact rfl) M.b_zip (pad_cons (pd_var (pv 4)) (pad_cons (pd_var (pv 5)) (pad_nil)))) (blkOk_by (by kernel_rfl)) (only_tup (only_cons (only_name) (only_cons (only_name) (only_nil)))) (fun _ _ _ _ _ => pgd_tup rfl (pgsd_cons (pgd_name (pg_name hN rfl (by first | exact Or.inl rfl | exact Or.inr rfl | exact Or.inr (Or.inl rfl) | exact Or.inr (Or.inr rfl)))) (pgsd_cons (pgd_name (pg_name hN rfl (by first | exact Or.inl rfl | exact Or.inr rfl | exact Or.inr (Or.inl rfl) | exact Or.inr (Or.inr rfl)))) (pgsd_nil)))) (fun _ _ _ _ _ => pts_d1 (ptd_cmp (Dn.OpR.or op_eq (op_eqD (u64 hu))) ok_eqA (pb_of (pg_call (g__law_standing M hb) (hr.mono (by decide)) hgd (by exact rfl) (pad_cons (pd_var (pv 1)) (pad_cons (pd_var (pv 8)) (pad_nil))))) (pb_var (pv 6)) rfl)) (fun _ _ _ _ _ => pd_tup (pad_cons (pd_var (pv 6)) (pad_cons (pd_var (pv 8)) (pad_nil))))))
      (psd_cons (psd_share [9] (psd_set (ps_set hN rfl (by first | exact Or.inl rfl | exact Or.inr rfl | exact Or.inr (Or.inl rfl) | exact Or.inr (Or.inr rfl)) (pd_frz (pd_lc (own := [("lot", 6), ("late", 11)]) (g := tupG 2 (consG (gN 6) (consG (gN 11) (g0)))) (t := tAnd (tB (bin neA (vD 6) (oA (cal mkTup (a0))))) (tB (bin neA (vD 11) (oA (cal mkTup (a0)))))) (f := cal mkTup (aC (vA 6) (aC (vA 11) (a0)))) rfl hN (pid_seq (pd_var (pv 9))) (blkOk_by (by kernel_rfl)) (only_tup (only_cons (only_name) (only_cons (only_name) (only_nil)))) (fun _ _ _ _ _ => pgd_tup rfl (pgsd_cons (pgd_name (pg_name hN rfl (by first | exact Or.inl rfl | exact Or.inr rfl | exact Or.inr (Or.inl rfl) | exact Or.inr (Or.inr rfl)))) (pgsd_cons (pgd_name (pg_name hN rfl (by first | exact Or.inl rfl | exact Or.inr rfl | exact Or.inr (Or.inl rfl) | exact Or.inr (Or.inr rfl)))) (pgsd_nil)))) (fun _ _ _ _ _ => pts_d1 (PW.pt (pwd_and (ptd_cmp (Dn.OpR.or op_ne (op_neD (u64 hu))) ok_neA (pb_var (pv 6)) (pb_of (pd_tup (pad_nil))) rfl) (pwd_and1 (ptd_cmp (Dn.OpR.or op_ne (op_neD (u64 hu))) ok_neA (pb_var (pv 11)) (pb_of (pd_tup (pad_nil))) rfl))))) (fun _ _ _ _ _ => pd_tup (pad_cons (pd_var (pv 6)) (pad_cons (pd_var (pv 11)) (pad_nil)))))))))
      (psd_cons (psd_par rfl hN rfl rfl (by decide) rfl rfl (pg_call (g_closed_couples M hb) (hr.mono (by decide)) hgd (by exact rfl) (pad_cons (pd_var (pv 1)) (pad_nil))) (pg_call (g_greatest_blocks M hb) (hr.mono (by decide)) hgd (by exact rfl) (pad_cons (pd_var (pv 1)) (pad_nil))) rfl)
      (psd_cons (psd_if (ptd_cmp (Dn.OpR.or op_ne (op_neD (u64 hu))) ok_neA (pb_of (pd_reprL hgd hu (by exact rfl) M.b_repr (pab_cons (pb_var (pv 12)) (pab_cons (pb_of (pg_callK0 (ks := ["relation"]) [0] (g_closed_couples M hb) (hr.mono (by decide)) hgd (by exact rfl) (fun _ _ _ _ _ _ us ws hl hus => by subst hus; exact match ws, hl with | _ :: _, _ => rfl) (pkd_cons (pd_var (pv 1)) (pkd_nil)))) (pab_cons (pb_var (pv 11)) (pab_cons (pb_of (pg_callK0 (ks := ["relation"]) [0] (g_greatest_blocks M hb) (hr.mono (by decide)) hgd (by exact rfl) (fun _ _ _ _ _ _ us ws hl hus => by subst hus; exact match ws, hl with | _ :: _, _ => rfl) (pkd_cons (pd_var (pv 1)) (pkd_nil)))) (pab_nil))))))) (pb_of (pd_reprL hgd hu (by exact rfl) M.b_repr (pab_cons (pb_var (pv 9)) (pab_cons (pb_var (pv 9)) (pab_cons (pb_var (pv 10)) (pab_cons (pb_var (pv 10)) (pab_nil))))))) rfl) (psd_one (psd_ret (pd_bl))) (psd_nil))
      (psd_cons (psd_append (pv 12) (pxd_of (pd_non)))
      (psd_cons (psd_append (pv 11) (pxd_of (pd_non)))
      (psd_cons (psd_if (ptd_cmp (Dn.OpR.or op_lt (op_ltD hu)) ok_ord (pb_var (pv 2)) (pb_of (pd_int)) rfl) (psd_cons (psd_set (ps_set hN rfl (by first | exact Or.inl rfl | exact Or.inr rfl | exact Or.inr (Or.inl rfl) | exact Or.inr (Or.inr rfl)) (pd_lst (pad_nil))))
      (psd_cons (psd_for PassesOwn.never rfl (pid_seq (pd_slice (pb_var (pv 4)) (po_some' (pb_of (pd_int))) (po_none'))) (pgd_name (pg_name hN rfl (by first | exact Or.inl rfl | exact Or.inr rfl | exact Or.inr (Or.inl rfl) | exact Or.inr (Or.inr rfl)))) (psd_one (psd_extend (pv 13) (pd_lc (own := [("last", 14)]) (g := gN 14) (t := tB (cal (calling 2 d__law_is_block) (aC (vA 1) (aC (cal mkTup (aC (vA 6) (aC (vA 14) (a0)))) (a0))))) (f := cal mkTup (aC (vA 6) (aC (vA 14) (a0)))) rfl hN (pid_seq (pd_slice (pb_var (pv 4)) (po_some' (pb_of (pd_int))) (po_none'))) (blkOk_by (by kernel_rfl)) (only_name) (fun _ _ _ _ _ => pgd_name (pg_name hN rfl (by first | exact Or.inl rfl | exact Or.inr rfl | exact Or.inr (Or.inl rfl) | exact Or.inr (Or.inr rfl)))) (fun _ _ _ _ _ => pts_d1 (ptd_val (pg_call (g__law_is_block M hb) (hr.mono (by decide)) hgd (by exact rfl) (pad_cons (pd_var (pv 1)) (pad_cons (pd_tup (pad_cons (pd_var (pv 6)) (pad_cons (pd_var (pv 14)) (pad_nil)))) (pad_nil)))))) (fun _ _ _ _ _ => pd_tup (pad_cons (pd_var (pv 6)) (pad_cons (pd_var (pv 14)) (pad_nil))))))))
      (psd_cons (psd_if (ptd_cmp (Dn.OpR.or op_ne (op_neD (u64 hu))) ok_neA (pb_of (pd_blt call_len_seq ok_len (by exact rfl) M.b_len (by decide +kernel) (pab_cons (pb_var (pv 13)) (pab_nil)))) (pb_var (pv 7)) rfl) (psd_one (psd_ret (pd_bl))) (psd_nil))
      (psd_cons (psd_share [13] (psd_setLc (own := [("lot", 6), ("last", 14)]) (g := tupG 2 (consG (gN 6) (consG (gN 14) (g0)))) (t := tB (bin eqA (oA (cal lenD (bC (oA (c__law_relation_right_7)) (b0)))) (oA (kA (.int 1))))) (f := cal mkTup (aC (vA 6) (aC (vA 14) (a0)))) rfl hN rfl rfl rfl (pid_seq (pd_var (pv 13))) (blkOk_by (by kernel_rfl)) (only_tup (only_cons (only_name) (only_cons (only_name) (only_nil)))) (fun _ _ _ _ _ => pgd_tup rfl (pgsd_cons (pgd_name (pg_name hN rfl (by first | exact Or.inl rfl | exact Or.inr rfl | exact Or.inr (Or.inl rfl) | exact Or.inr (Or.inr rfl)))) (pgsd_cons (pgd_name (pg_name hN rfl (by first | exact Or.inl rfl | exact Or.inr rfl | exact Or.inr (Or.inl rfl) | exact Or.inr (Or.inr rfl)))) (pgsd_nil)))) (fun _ _ _ _ _ => pts_d1 (ptd_cmp (Dn.OpR.or op_eq (op_eqD (u64 hu))) ok_eqA (pb_of (pd_blt call_len_seq ok_len (by exact rfl) M.b_len (by decide +kernel) (pab_cons (pb_of (pd_lc (own := [("one", 16), ("far", 17)]) (g := tupG 2 (consG (gN 16) (consG (gN 17) (g0)))) (t := tAnd (tB (cal allD (bC (oA (c__law_relation_right_6)) (b0)))) (tB (cal allD (bC (oA (c__law_relation_right_5)) (b0))))) (f := kA (.int 1)) rfl hN (pid_seq (pd_var (pv 13))) (blkOk_by (by kernel_rfl)) (only_tup (only_cons (only_name) (only_cons (only_name) (only_nil)))) (fun _ _ _ _ _ => pgd_tup rfl (pgsd_cons (pgd_name (pg_name hN rfl (by first | exact Or.inl rfl | exact Or.inr rfl | exact Or.inr (Or.inl rfl) | exact Or.inr (Or.inr rfl)))) (pgsd_cons (pgd_name (pg_name hN rfl (by first | exact Or.inl rfl | exact Or.inr rfl | exact Or.inr (Or.inl rfl) | exact Or.inr (Or.inr rfl)))) (pgsd_nil)))) (fun _ _ _ _ _ => pts_d1 (PW.pt (pwd_and (ptd_val (pd_blt (cr_all rfl) ok_bools (by exact rfl) M.b_all (by decide +kernel) (pab_cons (pb_of (pd_lc (own := [("x", 18)]) (g := gN 18) (t := lcTest0) (f := bin (memD id) (vD 18) (vD 16)) rfl hN (pid_seq (pd_var (pv 6))) (blkOk_by (by kernel_rfl)) (only_name) (fun _ _ _ _ _ => pgd_name (pg_name hN rfl (by first | exact Or.inl rfl | exact Or.inr rfl | exact Or.inr (Or.inl rfl) | exact Or.inr (Or.inr rfl)))) (fun _ _ _ _ _ => pts_d0) (fun _ _ _ _ _ => pd_cmp (op_inA hu) ok_mem (pb_var (pv 18)) (pb_var (pv 16)) rfl))) (pab_nil)))) (pwd_and1 (ptd_val (pd_blt (cr_all rfl) ok_bools (by exact rfl) M.b_all (by decide +kernel) (pab_cons (pb_of (pd_lc (own := [("x", 18)]) (g := gN 18) (t := lcTest0) (f := bin (memD id) (vD 18) (vD 17)) rfl hN (pid_seq (pd_var (pv 14))) (blkOk_by (by kernel_rfl)) (only_name) (fun _ _ _ _ _ => pgd_name (pg_name hN rfl (by first | exact Or.inl rfl | exact Or.inr rfl | exact Or.inr (Or.inl rfl) | exact Or.inr (Or.inr rfl)))) (fun _ _ _ _ _ => pts_d0) (fun _ _ _ _ _ => pd_cmp (op_inA hu) ok_mem (pb_var (pv 18)) (pb_var (pv 17)) rfl))) (pab_nil)))))))) (fun _ _ _ _ _ => pd_int))) (pab_nil)))) (pb_of (pd_int)) rfl)) (fun _ _ _ _ _ => pd_tup (pad_cons (pd_var (pv 6)) (pad_cons (pd_var (pv 14)) (pad_nil))))))
      (psd_one (psd_share [13] (psd_if (PW.pt (pwd_or (ptd_cmp (Dn.OpR.or op_ne (op_neD (u64 hu))) ok_neA (pb_var (pv 15)) (pb_var (pv 10)) rfl) (pwd_or1 (ptd_cmp (Dn.OpR.or op_ne (op_neD (u64 hu))) ok_neA (pb_of (pd_lc (own := [("one", 16)]) (g := gN 16) (t := tB (cal (calling 2 d_is_greatest_block) (aC (vA 1) (aC (vA 16) (a0))))) (f := vA 16) rfl hN (pid_seq (pd_var (pv 13))) (blkOk_by (by kernel_rfl)) (only_name) (fun _ _ _ _ _ => pgd_name (pg_name hN rfl (by first | exact Or.inl rfl | exact Or.inr rfl | exact Or.inr (Or.inl rfl) | exact Or.inr (Or.inr rfl)))) (fun _ _ _ _ _ => pts_d1 (ptd_val (pg_call (g_is_greatest_block M hb) (hr.mono (by decide)) hgd (by exact rfl) (pad_cons (pd_var (pv 1)) (pad_cons (pd_var (pv 16)) (pad_nil)))))) (fun _ _ _ _ _ => pd_var (pv 16)))) (pb_var (pv 10)) rfl)))) (psd_one (psd_ret (pd_bl))) (psd_nil)))))))) (psd_nil))
      (psd_cons (psd_set (ps_set hN rfl (by first | exact Or.inl rfl | exact Or.inr rfl | exact Or.inr (Or.inl rfl) | exact Or.inr (Or.inr rfl)) (pd_frz (pd_blt (cr_maxD rfl hu) ok_best (by exact rfl) M.b_max (by decide +kernel) (pab_cons (pb_of (pd_op op_addAll ok_add (pb_of (pd_lst (pad_cons (pd_int) (pad_nil)))) (pb_of (pd_lc (own := [("lot", 6), ("last", 14)]) (g := tupG 2 (consG (gN 6) (consG (gN 14) (g0)))) (t := lcTest0) (f := bin mulX (oA (cal lenD (bC (vD 6) (b0)))) (oA (cal lenD (bC (vD 14) (b0))))) rfl hN (pid_seq (pd_var (pv 10))) (blkOk_by (by kernel_rfl)) (only_tup (only_cons (only_name) (only_cons (only_name) (only_nil)))) (fun _ _ _ _ _ => pgd_tup rfl (pgsd_cons (pgd_name (pg_name hN rfl (by first | exact Or.inl rfl | exact Or.inr rfl | exact Or.inr (Or.inl rfl) | exact Or.inr (Or.inr rfl)))) (pgsd_cons (pgd_name (pg_name hN rfl (by first | exact Or.inl rfl | exact Or.inr rfl | exact Or.inr (Or.inl rfl) | exact Or.inr (Or.inr rfl)))) (pgsd_nil)))) (fun _ _ _ _ _ => pts_d0) (fun _ _ _ _ _ => pd_op (Dn.OpR.or op_mul op_repT) ok_mulX (pb_of (pd_blt call_len_seq ok_len (by exact rfl) M.b_len (by decide +kernel) (pab_cons (pb_var (pv 6)) (pab_nil)))) (pb_of (pd_blt call_len_seq ok_len (by exact rfl) M.b_len (by decide +kernel) (pab_cons (pb_var (pv 14)) (pab_nil))))))))) (pab_nil))))))
      (psd_cons (psd_setLc (own := [("lot", 6), ("last", 14)]) (g := tupG 2 (consG (gN 6) (consG (gN 14) (g0)))) (t := tB (bin eqA (oA (bin mulX (oA (cal lenD (bC (vD 6) (b0)))) (oA (cal lenD (bC (vD 14) (b0)))))) (vD 19))) (f := cal mkTup (aC (vA 6) (aC (vA 14) (a0)))) rfl hN rfl rfl rfl (pid_seq (pd_var (pv 10))) (blkOk_by (by kernel_rfl)) (only_tup (only_cons (only_name) (only_cons (only_name) (only_nil)))) (fun _ _ _ _ _ => pgd_tup rfl (pgsd_cons (pgd_name (pg_name hN rfl (by first | exact Or.inl rfl | exact Or.inr rfl | exact Or.inr (Or.inl rfl) | exact Or.inr (Or.inr rfl)))) (pgsd_cons (pgd_name (pg_name hN rfl (by first | exact Or.inl rfl | exact Or.inr rfl | exact Or.inr (Or.inl rfl) | exact Or.inr (Or.inr rfl)))) (pgsd_nil)))) (fun _ _ _ _ _ => pts_d1 (ptd_cmp (Dn.OpR.or op_eq (op_eqD (u64 hu))) ok_eqA (pb_of (pd_op (Dn.OpR.or op_mul op_repT) ok_mulX (pb_of (pd_blt call_len_seq ok_len (by exact rfl) M.b_len (by decide +kernel) (pab_cons (pb_var (pv 6)) (pab_nil)))) (pb_of (pd_blt call_len_seq ok_len (by exact rfl) M.b_len (by decide +kernel) (pab_cons (pb_var (pv 14)) (pab_nil)))))) (pb_var (pv 19)) rfl)) (fun _ _ _ _ _ => pd_tup (pad_cons (pd_var (pv 6)) (pad_cons (pd_var (pv 14)) (pad_nil)))))
      (psd_cons (psd_set (ps_set hN rfl (by first | exact Or.inl rfl | exact Or.inr rfl | exact Or.inr (Or.inl rfl) | exact Or.inr (Or.inr rfl)) (pd_frz (pd_if (ptd_cmp (Dn.OpR.or op_ne (op_neD (u64 hu))) ok_neA (pb_var (pv 20)) (pb_of (pd_lst (pad_nil))) rfl) (pd_ix ix_seq ok_ix (pb_var (pv 20)) (pb_of (pd_int)) (by intro _ _; rfl)) (pd_non)))))
      (psd_cons (psd_if (ptd_cmp (Dn.OpR.or op_ne (op_neD (u64 hu))) ok_neA (pb_of (pd_reprL hgd hu (by exact rfl) M.b_repr (pab_cons (pb_of (pg_call (g_widest_block M hb) (hr.mono (by decide)) hgd (by exact rfl) (pad_cons (pd_var (pv 1)) (pad_nil)))) (pab_cons (pb_of (pg_callK0 (ks := ["relation"]) [0] (g_widest_block M hb) (hr.mono (by decide)) hgd (by exact rfl) (fun _ _ _ _ _ _ us ws hl hus => by subst hus; exact match ws, hl with | _ :: _, _ => rfl) (pkd_cons (pd_var (pv 1)) (pkd_nil)))) (pab_nil))))) (pb_of (pd_reprL hgd hu (by exact rfl) M.b_repr (pab_cons (pb_var (pv 20)) (pab_cons (pb_var (pv 20)) (pab_nil))))) rfl) (psd_one (psd_ret (pd_bl))) (psd_nil))
      (psd_cons (psd_if (ptd_not (ptd_val (pd_blt (cr_all rfl) ok_bools (by exact rfl) M.b_all (by decide +kernel) (pab_cons (pb_of (pd_lc (own := [("one", 16), ("last", 14)]) (g := tupG 2 (consG (gN 16) (consG (gN 14) (g0)))) (t := lcTest0) (f := cal anyD (bC (oA (c__law_relation_right_12)) (b0))) rfl hN (pid_seq (pg_call (g__law_pairs M hb) (hr.mono (by decide)) hgd (by exact rfl) (pad_cons (pd_var (pv 1)) (pad_nil)))) (blkOk_by (by kernel_rfl)) (only_tup (only_cons (only_name) (only_cons (only_name) (only_nil)))) (fun _ _ _ _ _ => pgd_tup rfl (pgsd_cons (pgd_name (pg_name hN rfl (by first | exact Or.inl rfl | exact Or.inr rfl | exact Or.inr (Or.inl rfl) | exact Or.inr (Or.inr rfl)))) (pgsd_cons (pgd_name (pg_name hN rfl (by first | exact Or.inl rfl | exact Or.inr rfl | exact Or.inr (Or.inl rfl) | exact Or.inr (Or.inr rfl)))) (pgsd_nil)))) (fun _ _ _ _ _ => pts_d0) (fun _ _ _ _ _ => pd_blt (cr_any rfl) ok_bools (by exact rfl) M.b_any (by decide +kernel) (pab_cons (pb_of (pd_lc (own := [("lot", 6), ("far", 17)]) (g := tupG 2 (consG (gN 6) (consG (gN 17) (g0)))) (t := lcTest0) (f := andA (bin (memD id) (vD 16) (vD 6)) (bin (memD id) (vD 14) (vD 17))) rfl hN (pid_seq (pd_var (pv 10))) (blkOk_by (by kernel_rfl)) (only_tup (only_cons (only_name) (only_cons (only_name) (only_nil)))) (fun _ _ _ _ _ => pgd_tup rfl (pgsd_cons (pgd_name (pg_name hN rfl (by first | exact Or.inl rfl | exact Or.inr rfl | exact Or.inr (Or.inl rfl) | exact Or.inr (Or.inr rfl)))) (pgsd_cons (pgd_name (pg_name hN rfl (by first | exact Or.inl rfl | exact Or.inr rfl | exact Or.inr (Or.inl rfl) | exact Or.inr (Or.inr rfl)))) (pgsd_nil)))) (fun _ _ _ _ _ => pts_d0) (fun _ _ _ _ _ => pd_and (pd_cmp (op_inA hu) ok_mem (pb_var (pv 16)) (pb_var (pv 6)) rfl) (pd_one (pd_cmp (op_inA hu) ok_mem (pb_var (pv 14)) (pb_var (pv 17)) rfl))))) (pab_nil))))) (pab_nil))))) (psd_one (psd_ret (pd_bl))) (psd_nil))
      (psd_cons (psd_set (ps_set hN rfl (by first | exact Or.inl rfl | exact Or.inr rfl | exact Or.inr (Or.inl rfl) | exact Or.inr (Or.inr rfl)) (pd_frz (pg_call (g_turned M hb) (hr.mono (by decide)) hgd (by exact rfl) (pad_cons (pd_var (pv 1)) (pad_nil))))))
      (psd_cons (psd_if (PW.pt (pwd_or (ptd_cmp (Dn.OpR.or op_ne (op_neD (u64 hu))) ok_neA (pb_var (pv 21)) (pb_of (pg_call (g__law_turned M hb) (hr.mono (by decide)) hgd (by exact rfl) (pad_cons (pd_var (pv 1)) (pad_nil)))) rfl) (pwd_or (ptd_cmp (Dn.OpR.or op_ne (op_neD (u64 hu))) ok_neA (pb_of (pd_blt (cr_sortD hu) ok_sorted (by exact rfl) M.b_sorted (by decide +kernel) (pab_cons (pb_of (pd_lc (own := [("lot", 6), ("far", 17)]) (g := tupG 2 (consG (gN 6) (consG (gN 17) (g0)))) (t := lcTest0) (f := cal mkTup (aC (vA 17) (aC (vA 6) (a0)))) rfl hN (pid_seq (pg_call (g_closed_couples M hb) (hr.mono (by decide)) hgd (by exact rfl) (pad_cons (pd_var (pv 21)) (pad_nil)))) (blkOk_by (by kernel_rfl)) (only_tup (only_cons (only_name) (only_cons (only_name) (only_nil)))) (fun _ _ _ _ _ => pgd_tup rfl (pgsd_cons (pgd_name (pg_name hN rfl (by first | exact Or.inl rfl | exact Or.inr rfl | exact Or.inr (Or.inl rfl) | exact Or.inr (Or.inr rfl)))) (pgsd_cons (pgd_name (pg_name hN rfl (by first | exact Or.inl rfl | exact Or.inr rfl | exact Or.inr (Or.inl rfl) | exact Or.inr (Or.inr rfl)))) (pgsd_nil)))) (fun _ _ _ _ _ => pts_d0) (fun _ _ _ _ _ => pd_tup (pad_cons (pd_var (pv 17)) (pad_cons (pd_var (pv 6)) (pad_nil)))))) (pab_nil)))) (pb_var (pv 9)) rfl) (pwd_or1 (ptd_cmp (Dn.OpR.or op_ne (op_neD (u64 hu))) ok_neA (pb_of (pg_call (g_many_full_blocks M hb) (hr.mono (by decide)) hgd (by exact rfl) (pad_cons (pd_var (pv 21)) (pad_nil)))) (pb_var (pv 7)) rfl))))) (psd_one (psd_ret (pd_bl))) (psd_nil))
      (psd_one (psd_share [9] (psd_ret (pd_and (pg_call (g__law_lots_right M hb) (hr.mono (by decide)) hgd (by exact rfl) (pad_cons (pd_var (pv 0)) (pad_cons (pd_var (pv 1)) (pad_cons (pd_var (pv 4)) (pad_cons (pd_var (pv 9)) (pad_nil)))))) (pd_and (pd_cmp (Dn.OpR.or op_eq (op_eqD (u64 hu))) ok_eqA (pb_of (pd_blt (cr_reprD hgd hu) ok_repr (by exact rfl) M.b_repr (by decide +kernel) (pab_cons (pb_var (pv 1)) (pab_nil)))) (pb_var (pv 3)) rfl) (pd_one (pd_cmp (Dn.OpR.or op_eq (op_eqD (u64 hu))) ok_eqA (pb_of (pd_blt (cr_reprD hgd hu) ok_repr (by exact rfl) M.b_repr (by decide +kernel) (pab_cons (pb_of (pg_call (g_closed_couples M hb) (hr.mono (by decide)) hgd (by exact rfl) (pad_cons (pd_var (pv 1)) (pad_nil)))) (pab_nil)))) (pb_of (pd_blt (cr_reprD hgd hu) ok_repr (by exact rfl) M.b_repr (by decide +kernel) (pab_cons (pb_var (pv 9)) (pab_nil)))) rfl)))))))))))))))))))))))))
noncomputable def lb_law_0 : Dn.Env → T Out := seqD (setD 2 (fzA (cal (calling 2 d__law_pot) (aC (vA 0) (aC (vA 1) (a0)))))) (ifD (tOr (tNot (tB (cal (calling 2 d__law_relation_right) (aC (vA 2) (aC (cal (calling 2 d__law_relation) (aC (vA 2) (aC (bin addD (oA (kA (.int 1))) (oA (cal (calling 2 d__law_draw) (aC (vA 2) (aC (kA (.int 6)) (a0)))))) (a0)))) (a0)))))) (tNot (tB (cal (calling 2 d__law_relation_right) (aC (vA 2) (aC (cal (calling 2 d__law_relation) (aC (vA 2) (aC (bin addD (oA (kA (.int 1))) (oA (cal (calling 2 d__law_draw) (aC (vA 2) (aC (kA (.int 4)) (a0)))))) (a0)))) (a0))))))) (sRet (kA (.bool false))) (sNil))
noncomputable def b_law : Dn.Env → T Out := seqD (forD (itR (oA (cal max2D (bC (oA (kA (.int 1))) (bC (oA (cal min2D (bC (oA (kA (.int 2))) (bC (oA (cal lenD (bC (vD 0) (b0)))) (b0))))) (b0)))))) (gN 1) (lb_law_0)) (sRet (kA (.bool true)))
noncomputable def d_law : List AV → T AV := shut (runD 1 3 b_law)
theorem q_law : d_law = runD 1 3 b_law := shut_eq _
theorem s_law : FnScope ["script", "k", "pot"] ["script"] (defScope (LawHd.top 59)) := ⟨rfl, rfl, rfl, by decide +kernel, rfl, by decide +kernel, by decide +kernel⟩
theorem g_law (M : Facts K mg) {base : Heap} (hb : Hb K mg base) : FnG P w K mg base (TbL K) (Cal P w K mg base (TbL K)) "law" (LawHd.top 59) ["script"] 29 d_law := by
  rw [q_law]
  obtain ⟨fd, F⟩ := M.f_law
  refine fn_g (N := ["script", "k", "pot"]) F s_law M.g_law (by decide) (fun _ _ _ _ _ _ us hl => match us, hl with | [_], _ => rfl) fun cdv A outer s H hr hgd => ?_
  have hN : (["script", "k", "pot"] : List Str).Nodup := s_law.nd
  have hu := room200 hr
  unfold b_law
  exact psd_cons (psd_for PassesOwn.never rfl (pid_range1 (by exact rfl) M.b_range (pb_of (pd_blt (call_max2 rfl) ok_max2 (by exact rfl) M.b_max (by decide +kernel) (pab_cons (pb_of (pd_int)) (pab_cons (pb_of (pd_blt (call_min2 rfl) ok_min2 (by exact rfl) M.b_min (by decide +kernel) (pab_cons (pb_of (pd_int)) (pab_cons (pb_of (pd_blt call_len_seq ok_len (by exact rfl) M.b_len (by decide +kernel) (pab_cons (pb_var (pv 0)) (pab_nil)))) (pab_nil))))) (pab_nil)))))) (pgd_name (pg_name hN rfl (by first | exact Or.inl rfl | exact Or.inr rfl | exact Or.inr (Or.inl rfl) | exact Or.inr (Or.inr rfl)))) (psd_cons (psd_set (ps_set hN rfl (by first | exact Or.inl rfl | exact Or.inr rfl | exact Or.inr (Or.inl rfl) | exact Or.inr (Or.inr rfl)) (pd_frz (pg_call (g__law_pot M hb) (hr.mono (by decide)) hgd (by exact rfl) (pad_cons (pd_var (pv 0)) (pad_cons (pd_var (pv 1)) (pad_nil)))))))
      (psd_one (psd_if (PW.pt (pwd_or (ptd_not (ptd_val (pg_call (g__law_relation_right M hb) (hr.mono (by decide)) hgd (by exact rfl) (pad_cons (pd_var (pv 2)) (pad_cons (pg_call (g__law_relation M hb) (hr.mono (by decide)) hgd (by exact rfl) (pad_cons (pd_var (pv 2)) (pad_cons (pd_op op_addAll ok_add (pb_of (pd_int)) (pb_of (pg_call (g__law_draw M hb) (hr.mono (by decide)) hgd (by exact rfl) (pad_cons (pd_var (pv 2)) (pad_cons (pd_int) (pad_nil)))))) (pad_nil)))) (pad_nil)))))) (pwd_or1 (ptd_not (ptd_val (pg_call (g__law_relation_right M hb) (hr.mono (by decide)) hgd (by exact rfl) (pad_cons (pd_var (pv 2)) (pad_cons (pg_call (g__law_relation M hb) (hr.mono (by decide)) hgd (by exact rfl) (pad_cons (pd_var (pv 2)) (pad_cons (pd_op op_addAll ok_add (pb_of (pd_int)) (pb_of (pg_call (g__law_draw M hb) (hr.mono (by decide)) hgd (by exact rfl) (pad_cons (pd_var (pv 2)) (pad_cons (pd_int) (pad_nil)))))) (pad_nil)))) (pad_nil))))))))) (psd_one (psd_ret (pd_bl))) (psd_nil)))))
      (psd_one (psd_ret (pd_bl)))
end
end Wk
end
section
set_option Elab.async false
set_option linter.all false
set_option autoImplicit false
set_option maxRecDepth 100000
/-! EndG: the end of a law whose def is known by FnG. -/
namespace Dn
open PySem PySem.Spec PyProof.Rows L2 LamX

section
variable (K : PySem.W.Frag) (ts : List Addr) (a : Addr) (o : Obj) (xs : List V)
open Classical in
/-- what is tracked at the start: the script, the tables -/
noncomputable def hp0 : Hp := fun b => if b = a ∧ K.lookup a = none then some (.frz o (.lst xs)) else if b ∈ ts then some (.tbl #[]) else none
open Classical in
noncomputable def ph0 : Hp := fun b => if b = a ∧ K.lookup a = none then some (.frz o (.lst xs)) else none
variable {K ts a o xs}
theorem hp0_some {b : Addr} {u : HO} (h : hp0 K ts a o xs b = some u) : (b = a ∧ K.lookup a = none ∧ u = .frz o (.lst xs)) ∨ (b ∈ ts ∧ u = .tbl #[]) := by
  unfold hp0 at h
  split at h
  · rename_i q
    exact .inl ⟨q.1, q.2, (Option.some.inj h).symm⟩
  · split at h
    · rename_i q
      exact .inr ⟨q, (Option.some.inj h).symm⟩
    · cases h
theorem ph0_some {b : Addr} {u : HO} (h : ph0 K a o xs b = some u) : b = a ∧ K.lookup a = none ∧ u = .frz o (.lst xs) := by
  unfold ph0 at h
  split at h
  · rename_i q
    exact ⟨q.1, q.2, (Option.some.inj h).symm⟩
  · cases h
theorem ph0_le {b : Addr} {u : HO} (h : ph0 K a o xs b = some u) : hp0 K ts a o xs b = some u := by
  obtain ⟨h1, h2, h3⟩ := ph0_some h
  unfold hp0
  rw [if_pos ⟨h1, h2⟩, h3]
theorem hp0_tab {b : Addr} (hb : b ∈ ts) (ha : a ∉ ts) : hp0 K ts a o xs b = some (.tbl #[]) := by
  unfold hp0
  rw [if_neg (fun q : b = a ∧ K.lookup a = none => ha (q.1 ▸ hb)), if_pos hb]
end
theorem data_of {o o' : Obj} (h : o = o') : o.data = o'.data := congrArg Obj.data h
theorem law_callG {P : Program} {w : World} {K : PySem.W.Frag} {mg mb : Str → Option Value} {k : Nat} {fa a : Addr} {cs : List (Addr × Addr)} {Tb : List (Addr × Str)} {x arg : Str} {st : Stmt} {d : List AV → T AV} {s₁ : Shared} {vs : List Value} {ns : List Int}
    (KX : K.In s₁.heap) (hns : s₁.heap.Ns mainGlobals mg) (hb : s₁.heap.Ns builtinsNs mb) (hbb : ∀ x : Str, x ≠ "__name__" → mb x = bootBuiltins x) (hlim : s₁.heap.NoLimit) (hg : s₁.gens = #[])
    (hT : ∀ p ∈ cs, s₁.heap.get? p.2 = some { cls := .none, data := .fields #[] }) (nT : ∀ p ∈ cs, K.lookup p.2 = none) (C : ∀ p ∈ cs, PySem.W.CodeHd s₁.heap p.1 p.2)
    (hbm : ∃ (bm : Addr) (ob : Obj), mg "__builtins__" = some (.ref bm) ∧ bm ≠ builtinsNs ∧ s₁.heap.get? bm = some ob ∧ ob.cls = .type "module" ∧ ob.dict = some builtinsNs ∧ ob.data = .plain)
    (ha : s₁.heap.get? a = some { cls := .type "list", data := .seq vs.toArray }) (hi : IntsAre vs ns) (hl : ns.length ≤ sizeLine) (hr : Room k callerA)
    (hfa : mg x = some (.ref fa)) (hTb : ∀ p ∈ Tb, p.1 ∈ cs.map (·.2))
    (G : ∀ base : Heap, K.In base → base.Ns mainGlobals mg → (∀ p ∈ cs, TabB base mg p.1 p.2) → FnG P w K mg base Tb (Cal P w K mg base Tb) x st [arg] k d)
    (hd : Hold (d [.sh (.list (ns.map PyData.int))]) fun av => av = .sh (.bool true)) :
    codeAny (model P w) callerA (.call (.ref fa) ⟨[.ref a], []⟩) (fun r s' => r = .ok (.ret (.bool true)) ∧ OldK s₁.heap s'.heap ∧ s'.os = s₁.os ∧ AllBare s'.gens) s₁ := by
  let lo : Obj := { cls := .type "list", data := .seq vs.toArray }
  let ts : List Addr := cs.map (·.2)
  let H : Hp := hp0 K ts a lo (ns.map V.int)
  let W : Wd := ⟨ph0 K a lo (ns.map V.int), fun _ => False⟩
  have rv := vals_ints hi
  have tabAt : ∀ b, b ∈ ts → s₁.heap.get? b = some { cls := .none, data := .fields #[] } := fun b hb => by
    obtain ⟨p, hp, rfl⟩ := List.mem_map.mp hb
    exact hT p hp
  have tabC : ∀ b, b ∈ ts → ∃ c, PySem.W.CodeHd s₁.heap c b := fun b hb => by
    obtain ⟨p, hp, rfl⟩ := List.mem_map.mp hb
    exact ⟨p.1, C p hp⟩
  have aT : a ∉ ts := fun z => by
    have q := data_of (Option.some.inj (ha.symm.trans (tabAt a z)))
    cases q
  have hok : HOk P w H s₁.heap := fun b u e => by
    rcases hp0_some e with ⟨rfl, _, rfl⟩ | ⟨hb, rfl⟩
    · exact ⟨ha, by rw [List.length_map]; exact hl, vs, _, rv, ha⟩
    · exact tabAt b hb
  -- whatever is no script and no table is not tracked
  have free : ∀ {b : Addr} {u : Obj}, s₁.heap.get? b = some u → (∀ vs n, u.data ≠ .seq vs n) → u.data ≠ .fields #[] → H b = none := fun {b u} e h1 h2 => by
    cases q : H b with
    | none => rfl
    | some z =>
      rcases hp0_some q with ⟨rfl, _, _⟩ | ⟨hb, _⟩
      · exact absurd (data_of (Option.some.inj (e.symm.trans ha))) (h1 _ _)
      · exact absurd (data_of (Option.some.inj (e.symm.trans (tabAt b hb)))) h2
  have kept : ∀ {b : Addr} {u : Obj}, s₁.heap.get? b = some u → H b = none → (hidT s₁.heap H).get? b = some u := fun e n => hidT_get e n
  have dicts : ∀ {b : Addr} {m : Str → Option Value}, s₁.heap.Ns b m → (hidT s₁.heap H).Ns b m := fun {b m} ⟨u, es, ep, e, dd, r⟩ =>
    ⟨u, es, ep, kept e (free e (fun _ _ z => by rw [dd] at z; cases z) fun z => by rw [dd] at z; cases z), dd, r⟩
  have inK : K.In (hidT s₁.heap H) := fun b u e => kept (KX b u e) (by
    cases q : H b with
    | none => rfl
    | some z =>
      rcases hp0_some q with ⟨rfl, h2, _⟩ | ⟨hb, _⟩
      · rw [h2] at e
        cases e
      · obtain ⟨p, hp, rfl⟩ := List.mem_map.mp hb
        rw [nT p hp] at e
        cases e)
  have TB : ∀ p ∈ cs, TabB (hidT s₁.heap H) mg p.1 p.2 := fun p hp => by
    refine ⟨?_, ?_, fun z => ?_⟩
    · obtain ⟨u, us, file, tf, flags, tg, inF, text, tt, e1, r1, r2, r3, rest⟩ := C p hp
      refine ⟨u, us, file, tf, flags, tg, inF, text, tt, kept e1 (free e1 (fun _ _ z => ?_) fun z => ?_), r1, r2, r3, rest⟩
      · rw [r2] at z
        cases z
      · rw [r2] at z
        cases z
        simp at r3
    · obtain ⟨bm, ob, b1, b2, b3, b4, b5, b6⟩ := hbm
      refine ⟨bm, ob, b1, b2, fun q => ?_, fun q => ?_, kept b3 (free b3 (fun _ _ z => by rw [b6] at z; cases z) fun z => by rw [b6] at z; cases z), b4, b5, b6⟩
      · obtain ⟨u, es, ep, e, hdd, _⟩ := hns
        rw [q, e] at b3
        cases b3
        rw [hdd] at b6
        cases b6
      · rw [q, hT p hp] at b3
        cases b3
        cases b6
    · obtain ⟨u, es, ep, e, hdd, _⟩ := hns
      rw [z, hT p hp] at e
      cases e
      cases hdd
  have e0 : Env0 P w K mg (hidT s₁.heap H) callerA [] s₁ H := by
    refine ⟨rfl, ⟨inK, dicts hns, ⟨mb, dicts hb, hbb⟩, ?_⟩, fun b u e => of_hidT e, Nat.le_of_eq (hidT_size _ _), trivial, fun b hb => absurd (show b ∈ ([] : List Addr) from hb) (by simp), hok, .of_eq hg⟩
    obtain ⟨mc, h1, h2⟩ := hlim
    exact ⟨mc, dicts h1, h2⟩
  have nn : ∀ {u : HO}, (none : Option HO) = some u → False := fun {u} e => by cases e
  have wk : WOk Tb W (fun _ => none) H := by
    refine ⟨fun b u e => ph0_le e, fun b u e => (nn e).elim, fun b u e => (nn e).elim, fun b z => z.elim, fun p hp => TabS.nil (hp0_tab (hTb p hp) aT), fun b u e ps z => ?_, fun b ys e => ?_, fun b u e => (nn e).elim⟩
    · rcases e with e | e
      · obtain ⟨_, _, rfl⟩ := ph0_some e
        cases z
      · exact nn e
    · rcases e with (e | ⟨u, e⟩) | (e | ⟨u, e⟩)
      · obtain ⟨_, _, q⟩ := ph0_some e
        cases q
      · obtain ⟨_, _, q⟩ := ph0_some e
        cases q
        rw [List.length_map]
        exact hl
      · obtain ⟨_, _, q⟩ := ph0_some e
        cases q
      · obtain ⟨_, _, q⟩ := ph0_some e
        cases q
  have sq : SqL K W.Φ a (ns.map V.int) := by
    cases hk : K.lookup a with
    | none => exact .inl (.inr ⟨lo, by show ph0 K a lo (ns.map V.int) a = _; unfold ph0; rw [if_pos ⟨rfl, hk⟩]⟩)
    | some u =>
      have e := KX a u hk
      rw [ha] at e
      cases e
      exact .inr ⟨_, vs.toArray, _, hk, rfl, rfl, rfl, by rw [List.size_toArray, hi.length]; exact hl, by simpa using rv⟩
  obtain ⟨fd, FD, bd, hm, run⟩ := (G _ inK (dicts hns) TB).ex
  rw [hfa] at hm
  obtain rfl : fa = He.ga K x := Value.ref.inj (Option.some.inj hm)
  have bt := bd s₁ [.ref a] KX rfl
  rw [List.append_nil] at bt
  refine codeAny_mono (run callerA [] s₁ H ⟨[.ref a], []⟩ [.ref a] [.ref a] (fun v _ => v = .bl true) hr rfl e0 bt (.cons rfl .nil)
    ⟨W, fun _ => none, [.sh (.list (ns.map PyData.int))], wk, .cons (.lst sq (DpAll.ints ns)) .nil, rfl, hd.mono fun av z => by
      subst z
      intro W' H' v _ _ hv
      cases hv
      rfl⟩) fun r s' h => ?_
  cases r with
  | error e => exact False.elim h
  | ok fl => cases fl with
    | ret u =>
      obtain ⟨v, H', os, bare, un, hok', r', rfl⟩ := h
      obtain rfl : u = Value.bool true := r'
      have same : ∀ b u, b ∉ ts → s₁.heap.get? b = some u → s'.heap.get? b = some u := fun b u nb e => by
        cases q : H b with
        | none => exact un.keep b u e q (fun z => absurd (show b ∈ ([] : List Addr) from z) (by simp)) (by simp)
        | some z =>
          rcases hp0_some q with ⟨rfl, _, rfl⟩ | ⟨hb, _⟩
          · obtain ⟨e1, _⟩ := hok b _ q
            obtain ⟨e2, _⟩ := hok' b _ (un.frzs b lo _ q)
            rw [← Option.some.inj (e1.symm.trans e)]
            exact e2
          · exact absurd hb nb
      have more : ∀ b, b ∈ ts → ∃ ms : Array Value, s'.heap.get? b = some { cls := .none, data := .fields ms } := fun b hb => by
        obtain ⟨ms, z⟩ := un.tbls b #[] (hp0_tab hb aT)
        exact ⟨_, hok' b _ z⟩
      refine ⟨rfl, ⟨fun b u e => ?_, fun b u e => ?_⟩, os, bare⟩
      · by_cases nb : b ∈ ts
        · obtain ⟨ms, hms⟩ := more b nb
          obtain ⟨c, hc⟩ := tabC b nb
          have ht := tabAt b nb
          rw [ht] at e
          cases e
          exact .inr (.inl ⟨(hc.tab ht).isCodeTable, rfl, #[], ms, rfl, by rw [Array.empty_append]; exact hms⟩)
        · exact .inl (same b u nb e)
      · by_cases nb : b ∈ ts
        · obtain ⟨ms, hms⟩ := more b nb
          exact ⟨_, hms⟩
        · exact ⟨u, same b u nb e⟩
    | _ => exact False.elim h
/-- the end by a hook -/
theorem walk_G {l : PySem.W.OpenLaw} {n k : Nat} {q : Program} {loose : List Str} {XP : (Str → Option Value) → Heap → Prop} {YP : World → Heap → Prop} {dr : DefRec} {st : Stmt} {x arg : Str} {d : List AV → T AV} (hx : dr.name = x)
    (hn : l.most = some n) (hn2 : n ≤ sizeLine) (hdf : dr.params.defaults = []) (hr : Room k callerA)
    (F : ∀ (w : World) (mg : Str → Option Value) (fa : Addr) (h : Heap), YP w h → h.Ns mainGlobals mg → mg x = some (.ref fa) → ∃ (K : PySem.W.Frag) (cs : List (Addr × Addr)) (Tb : List (Addr × Str)), K.In h ∧
      (∀ p ∈ cs, h.get? p.2 = some { cls := .none, data := .fields #[] }) ∧ (∀ p ∈ cs, K.lookup p.2 = none) ∧ (∀ p ∈ cs, PySem.W.CodeHd h p.1 p.2) ∧ (∀ p ∈ Tb, p.1 ∈ cs.map (·.2)) ∧
      ∀ base : Heap, K.In base → base.Ns mainGlobals mg → (∀ p ∈ cs, TabB base mg p.1 p.2) → FnG l.prog w K mg base Tb (Cal l.prog w K mg base Tb) x st [arg] k d)
    (hd : ∀ ns : List Int, ns.length ≤ n → (∀ z ∈ ns, Builtin.Int.intBits z ≤ 1048576) → Hold (d [.sh (.list (ns.map PyData.int))]) fun av => av = .sh (.bool true)) :
    PySem.W.WalkO q loose XP YP l.row.toRowW dr [] (fun f vs => PySem.call f vs) := by
  subst hx
  refine Att.attach_callB hn hdf fun w s₀ s₁ mg mb fa o pm cd doc a vs ns G Y ho _ _ hmg hobj hints hlen hbits hg => ?_
  obtain ⟨K, cs, Tb, KX, hT, nT, C, hTb, hF⟩ := F w mg fa _ Y G.T.g hmg
  exact law_callG KX G.T.g G.T.b G.T.builtins G.T.nolimit hg hT nT C G.T.bmain hobj hints (Nat.le_trans hlen hn2) hr hmg hTb hF (hd ns hlen hbits)
end Dn
end
section
set_option Elab.async false
set_option linter.all false
set_option autoImplicit false
set_option maxRecDepth 100000
/-! M1: reckoning with denotations. -/
namespace Dn
open PySem PySem.Spec PyProof.Rows L2 LamX

theorem bind_ret {α β : Type} (a : α) (f : α → T β) : (T.ret a).bind f = f a := Eq.trans rfl rfl
theorem bind_err {α β : Type} (f : α → T β) : (T.err : T α).bind f = .err := Eq.trans rfl rfl
theorem bind_draw {α β : Type} (n : Nat) (k : Nat → T α) (f : α → T β) : (T.draw n k).bind f = .draw n fun d => (k d).bind f := Eq.trans rfl rfl
theorem bind_assoc {α β γ : Type} (f : α → T β) (g : β → T γ) : ∀ m : T α, (m.bind f).bind g = m.bind fun a => (f a).bind g
  | .err => rfl
  | .ret _ => rfl
  | .draw n k => by
    show T.draw n _ = T.draw n _
    congr 1
    funext d
    exact bind_assoc f g (k d)
theorem hold_ret {α : Type} {a : α} {p : α → Prop} : Hold (.ret a) p ↔ p a := Iff.rfl
theorem hold_bind {α β : Type} {m : T α} {f : α → T β} {p : β → Prop} : Hold (m.bind f) p ↔ Hold m fun a => Hold (f a) p := ⟨Hold.bind, Hold.bind'⟩
theorem hold_of {α : Type} {m : T α} {a : α} {p : α → Prop} (h : m = .ret a) (hp : p a) : Hold m p := by
  rw [h]
  exact hp
theorem share_nil (ρ : Env) : share [] ρ = ρ := rfl
theorem slA0 {d : PyData} {l : Env} : slotA (.sh d :: l) 0 = .ret (.sh d) := rfl
theorem slAp {l : Env} : slotA (.pot :: l) 0 = .ret .pot := rfl
theorem slAf {g : List PyData → T PyData} {l : Env} : slotA (.fn g :: l) 0 = .ret (.fn g) := rfl
theorem slAs {a : AV} {l : Env} {n : Nat} : slotA (a :: l) (n + 1) = slotA l n := rfl
theorem slD0 {d : PyData} {l : Env} : slotD (.sh d :: l) 0 = .ret d := rfl
theorem slDo {ds : List PyData} {l : Env} : slotD (.own ds :: l) 0 = .ret (.list ds) := rfl
theorem slDs {a : AV} {l : Env} {n : Nat} : slotD (a :: l) (n + 1) = slotD l n := rfl
theorem itemsL {ds : List PyData} : itemsD (.list ds) = .ret ds := rfl
theorem itemsT {ds : List PyData} : itemsD (.tuple ds) = .ret ds := rfl
/-! ### comprehensions -/
theorem wipe_one (v : Nat) (ρ : Env) : wipeE [v] ρ = ρ.set v .no := rfl
theorem set_set' {α : Type} (l : List α) (v : Nat) (x y : α) : (l.set v x).set v y = l.set v y := List.set_set ..
theorem lcN {α : Type} {v : Nat} {t : Env → T Bool} {f : Env → T AV} {ρ : Env} {e : α → PyData} (b : α → Bool) (y : α → PyData) : ∀ (l : List α), (∀ a ∈ l, t (ρ.set v (.sh (e a))) = .ret (b a)) → (∀ a ∈ l, b a = true → (f (ρ.set v (.sh (e a)))).bind toS = .ret (y a)) →
    lcItems [v] (gN v) t f ρ (l.map e) = .ret ((l.filter b).map y)
  | [], _, _ => rfl
  | a :: l, ht, hf => by
    have ih := lcN b y l (fun c hc => ht c (List.mem_cons_of_mem _ hc)) (fun c hc => hf c (List.mem_cons_of_mem _ hc))
    show ((T.ret ((wipeE [v] ρ).set v (.sh (e a)))).bind fun ρ1 => _) = _
    rw [bind_ret, wipe_one, set_set', ht a List.mem_cons_self, bind_ret]
    cases hb : b a with
    | false =>
      rw [if_neg (by simp), ih, List.filter_cons_of_neg (by simp [hb])]
    | true =>
      rw [if_pos rfl, hf a List.mem_cons_self hb, bind_ret, ih, bind_ret, List.filter_cons_of_pos hb, List.map_cons]
/-- no test -/
theorem lcN1 {α : Type} {v : Nat} {f : Env → T AV} {ρ : Env} {e : α → PyData} (y : α → PyData) (l : List α) (hf : ∀ a ∈ l, (f (ρ.set v (.sh (e a)))).bind toS = .ret (y a)) :
    lcItems [v] (gN v) lcTest0 f ρ (l.map e) = .ret (l.map y) := by
  rw [lcN (fun _ => true) y l (fun _ _ => rfl) (fun a ha _ => hf a ha)]
  congr 2
  exact List.filter_eq_self.mpr fun _ _ => rfl
inductive All2 {α β : Type} (P : α → β → Prop) : List α → List β → Prop
  | nil : All2 P [] []
  | cons {a : α} {b : β} {as : List α} {bs : List β} : P a b → All2 P as bs → All2 P (a :: as) (b :: bs)
theorem lcH1 {α : Type} {v : Nat} {f : Env → T AV} {ρ : Env} {e : α → PyData} (P : α → PyData → Prop) : ∀ (l : List α), (∀ a ∈ l, Hold ((f (ρ.set v (.sh (e a)))).bind toS) (P a)) → Hold (lcItems [v] (gN v) lcTest0 f ρ (l.map e)) (All2 P l)
  | [], _ => .nil
  | a :: l, hf => by
    have ih := lcH1 P l (fun c hc => hf c (List.mem_cons_of_mem _ hc))
    show Hold ((T.ret ((wipeE [v] ρ).set v (.sh (e a)))).bind fun ρ1 => _) _
    rw [bind_ret, wipe_one, set_set']
    show Hold (((f (ρ.set v (.sh (e a)))).bind toS).bind _) _
    refine Hold.bind' ((hf a List.mem_cons_self).mono fun y hy => Hold.bind' (ih.mono fun ys hys => .cons hy hys))
theorem lcH {α : Type} {v : Nat} {t : Env → T Bool} {f : Env → T AV} {ρ : Env} {e : α → PyData} (P : α → PyData → Prop) : ∀ (l : List α), (∀ a ∈ l, Hold (t (ρ.set v (.sh (e a)))) fun _ => True) → (∀ a ∈ l, Hold ((f (ρ.set v (.sh (e a)))).bind toS) (P a)) →
    Hold (lcItems [v] (gN v) t f ρ (l.map e)) fun ys => ∃ l' : List α, l'.Sublist l ∧ All2 P l' ys
  | [], _, _ => ⟨[], List.Sublist.slnil, .nil⟩
  | a :: l, ht, hf => by
    have ih := lcH P l (fun c hc => ht c (List.mem_cons_of_mem _ hc)) (fun c hc => hf c (List.mem_cons_of_mem _ hc))
    show Hold ((T.ret ((wipeE [v] ρ).set v (.sh (e a)))).bind fun ρ1 => _) _
    rw [bind_ret, wipe_one, set_set']
    refine Hold.bind' ((ht a List.mem_cons_self).mono fun b _ => ?_)
    cases b with
    | false =>
      rw [if_neg (by simp)]
      exact ih.mono fun ys ⟨l', h1, h2⟩ => ⟨l', h1.cons _, h2⟩
    | true =>
      rw [if_pos rfl]
      exact Hold.bind' ((hf a List.mem_cons_self).mono fun y hy => Hold.bind' (ih.mono fun ys ⟨l', h1, h2⟩ => ⟨a :: l', h1.cons₂ _, .cons hy h2⟩))
theorem lcD_eq {vs : List Nat} {it : Env → T (List PyData)} {g : PyData → Env → T Env} {t : Env → T Bool} {f : Env → T AV} {ρ : Env} {ds ys : List PyData} (h1 : it ρ = .ret ds) (h2 : vs.all (notOwn ρ) = true) (h3 : lcItems vs g t f ρ ds = .ret ys) : lcD vs it g t f ρ = .ret (.own ys) := by
  unfold lcD
  rw [h1, bind_ret, if_pos h2, h3]
  rfl
theorem lcD_hold {vs : List Nat} {it : Env → T (List PyData)} {g : PyData → Env → T Env} {t : Env → T Bool} {f : Env → T AV} {ρ : Env} {ds : List PyData} {p : AV → Prop} (h1 : it ρ = .ret ds) (h2 : vs.all (notOwn ρ) = true) (h3 : Hold (lcItems vs g t f ρ ds) fun ys => p (.own ys)) : Hold (lcD vs it g t f ρ) p := by
  unfold lcD
  rw [h1, bind_ret, if_pos h2]
  exact Hold.bind' (h3.mono fun _ h => h)
/-! ### loops -/
theorem forN {α β : Type} {v : Nat} {body : Env → T Out} {e : α → PyData} (St : β → AV → Env) (step : β → α → β) (I : β → Prop) (hset : ∀ s x y, (St s x).set v y = St s y) : ∀ (l : List α) (s : β) (x : AV), I s →
    (∀ s, I s → ∀ a ∈ l, I (step s a) ∧ ∃ x', body (St s (.sh (e a))) = .ret (.nx (St (step s a) x'))) → ∃ x', forItems (gN v) body (l.map e) (St s x) = .ret (.nx (St (l.foldl step s) x')) ∧ I (l.foldl step s)
  | [], s, x, hI, _ => ⟨x, rfl, hI⟩
  | a :: l, s, x, hI, hb => by
    obtain ⟨hI2, x1, h1⟩ := hb s hI a List.mem_cons_self
    obtain ⟨x', h2, h3⟩ := forN St step I hset l (step s a) x1 hI2 fun s hs c hc => hb s hs c (List.mem_cons_of_mem _ hc)
    refine ⟨x', ?_, h3⟩
    show ((T.ret ((St s x).set v (.sh (e a)))).bind fun ρ1 => _) = _
    rw [bind_ret, hset, h1, bind_ret]
    exact h2
theorem forH {g : PyData → Env → T Env} {body : Env → T Out} (I : Env → Prop) : ∀ (ds : List PyData) (ρ : Env), I ρ → (∀ ρ, I ρ → ∀ d ∈ ds, Hold (g d ρ) fun ρ1 => Hold (body ρ1) fun o => ∃ ρ', (o = .nx ρ' ∨ o = .ct ρ') ∧ I ρ') →
    Hold (forItems g body ds ρ) fun o => ∃ ρ', o = .nx ρ' ∧ I ρ'
  | [], ρ, hI, _ => ⟨ρ, rfl, hI⟩
  | d :: ds, ρ, hI, hb => by
    refine Hold.bind' ((hb ρ hI d List.mem_cons_self).mono fun ρ1 h => Hold.bind' (h.mono fun o ⟨ρ', ho, hI'⟩ => ?_))
    have ih := forH I ds ρ' hI' fun ρ h d hd => hb ρ h d (List.mem_cons_of_mem _ hd)
    rcases ho with rfl | rfl <;> exact ih
/-! ### data that are compared thing by thing -/
mutual
def plain : PyData → Bool
  | .bool _ => false
  | .dict _ => false
  | .list xs => plainAll xs
  | .tuple xs => plainAll xs
  | .none => true
  | .int _ => true
  | .str _ => true
def plainAll : List PyData → Bool
  | [] => true
  | x :: xs => plain x && plainAll xs
end
mutual
theorem eqv_iff : ∀ x y : PyData, plain x = true → plain y = true → (PyData.eqv x y = true ↔ x = y)
  | .none, y, _, hy => by cases y <;> simp [PyData.eqv, plain] at hy ⊢
  | .bool _, _, h, _ => by simp [plain] at h
  | .dict _, _, h, _ => by simp [plain] at h
  | .int i, y, _, hy => by cases y <;> simp [PyData.eqv, plain] at hy ⊢
  | .str i, y, _, hy => by cases y <;> simp [PyData.eqv, plain] at hy ⊢
  | .list xs, y, hx, hy => by
    cases y with
    | list ys =>
      rw [plain] at hx hy
      rw [PyData.eqv, eqvAll_iff xs ys hx hy]
      exact ⟨fun h => by rw [h], fun h => PyData.list.inj h⟩
    | bool _ => simp [plain] at hy
    | dict _ => simp [plain] at hy
    | _ => simp [PyData.eqv]
  | .tuple xs, y, hx, hy => by
    cases y with
    | tuple ys =>
      rw [plain] at hx hy
      rw [PyData.eqv, eqvAll_iff xs ys hx hy]
      exact ⟨fun h => by rw [h], fun h => PyData.tuple.inj h⟩
    | bool _ => simp [plain] at hy
    | dict _ => simp [plain] at hy
    | _ => simp [PyData.eqv]
theorem eqvAll_iff : ∀ xs ys : List PyData, plainAll xs = true → plainAll ys = true → (PyData.eqvAll xs ys = true ↔ xs = ys)
  | [], ys, _, _ => by cases ys <;> simp [PyData.eqvAll]
  | x :: xs, [], _, _ => by simp [PyData.eqvAll]
  | x :: xs, y :: ys, hx, hy => by
    rw [plainAll, Bool.and_eq_true] at hx hy
    rw [PyData.eqvAll, Bool.and_eq_true, eqv_iff x y hx.1 hy.1, eqvAll_iff xs ys hx.2 hy.2, List.cons.injEq]
end
theorem plainAll_iff : ∀ {xs : List PyData}, plainAll xs = true ↔ ∀ x ∈ xs, plain x = true
  | [] => by simp [plainAll]
  | x :: xs => by
    rw [plainAll, Bool.and_eq_true, plainAll_iff]
    simp
theorem canLayAll_iff : ∀ {xs : List PyData}, PyData.canLayAll0 xs = true ↔ ∀ x ∈ xs, x.canLay0 = true
  | [] => by simp [PyData.canLayAll0]
  | x :: xs => by
    rw [PyData.canLayAll0, Bool.and_eq_true, canLayAll_iff]
    simp
theorem depthAll_le : ∀ {xs : List PyData} {n : Nat}, PyData.depthAll xs ≤ n ↔ ∀ x ∈ xs, x.depth ≤ n
  | [], n => by simp [PyData.depthAll]
  | x :: xs, n => by
    rw [PyData.depthAll, Nat.max_le, depthAll_le]
    simp
/-- data that can be laid, with d levels at most -/
def Ok (n : Nat) (d : PyData) : Prop := plain d = true ∧ d.canLay0 = true ∧ d.depth ≤ n
theorem Ok.int {n : Nat} (i : Int) : Ok n (.int i) := ⟨by simp [plain], by simp [PyData.canLay0], by simp [PyData.depth]⟩
theorem Ok.list {n : Nat} {xs : List PyData} (h : ∀ x ∈ xs, Ok n x) : Ok (n + 1) (.list xs) := by
  refine ⟨by rw [plain, plainAll_iff]; exact fun x hx => (h x hx).1, by rw [PyData.canLay0, canLayAll_iff]; exact fun x hx => (h x hx).2.1, ?_⟩
  have q : PyData.depthAll xs ≤ n := depthAll_le.mpr fun x hx => (h x hx).2.2
  rw [PyData.depth]
  omega
theorem Ok.tuple {n : Nat} {xs : List PyData} (h : ∀ x ∈ xs, Ok n x) : Ok (n + 1) (.tuple xs) := by
  refine ⟨by rw [plain, plainAll_iff]; exact fun x hx => (h x hx).1, by rw [PyData.canLay0, canLayAll_iff]; exact fun x hx => (h x hx).2.1, ?_⟩
  have q : PyData.depthAll xs ≤ n := depthAll_le.mpr fun x hx => (h x hx).2.2
  rw [PyData.depth]
  omega
theorem Ok.mono {n m : Nat} {d : PyData} (h : Ok n d) (hm : n ≤ m) : Ok m d := ⟨h.1, h.2.1, Nat.le_trans h.2.2 hm⟩
theorem Ok.okD {n : Nat} {d : PyData} (h : Ok n d) (hn : n ≤ 64) : Dn.okD d = true := by
  unfold Dn.okD SeqAt.shaped
  rw [h.2.1, Bool.true_and, decide_eq_true_iff]
  exact Nat.le_trans h.2.2 hn
theorem eqv_ok {n m : Nat} {x y : PyData} (hx : Ok n x) (hy : Ok m y) : PyData.eqv x y = true ↔ x = y := eqv_iff x y hx.1 hy.1
/-- x == y, of data that are laid -/
theorem eqA_ok {n m : Nat} {x y : PyData} (hx : Ok n x) (hy : Ok m y) (hn : n ≤ 64) (hm : m ≤ 64) [Decidable (x = y)] : eqA x y = .ret (.sh (.bool (decide (x = y)))) := by
  have gen : eqD x y = .ret (.sh (.bool (decide (x = y)))) := by
    unfold eqD
    rw [hx.okD hn, hy.okD hm, if_pos (show (true && true) = true from rfl)]
    congr 3
    by_cases h : x = y
    · rw [decide_eq_true h, (eqv_ok hx hy).mpr h]
    · rw [decide_eq_false h]
      exact Bool.eq_false_iff.mpr fun z => h ((eqv_ok hx hy).mp z)
  cases x with
  | str a => cases y with
    | str b =>
      show T.ret _ = T.ret _
      congr 3
      exact decide_eq_decide.mpr ⟨fun h => by rw [h], fun h => PyData.str.inj h⟩
    | _ => exact gen
  | _ => exact gen
theorem neA_ok {n m : Nat} {x y : PyData} (hx : Ok n x) (hy : Ok m y) (hn : n ≤ 64) (hm : m ≤ 64) [Decidable (x = y)] : neA x y = .ret (.sh (.bool (!decide (x = y)))) := by
  have gen : neD x y = .ret (.sh (.bool (!decide (x = y)))) := by
    unfold neD
    rw [hx.okD hn, hy.okD hm, if_pos (show (true && true) = true from rfl)]
    congr 4
    by_cases h : x = y
    · rw [decide_eq_true h, (eqv_ok hx hy).mpr h]
    · rw [decide_eq_false h]
      exact Bool.eq_false_iff.mpr fun z => h ((eqv_ok hx hy).mp z)
  cases x with
  | str a => cases y with
    | str b =>
      show T.ret _ = T.ret _
      congr 4
      exact decide_eq_decide.mpr ⟨fun h => by rw [h], fun h => PyData.str.inj h⟩
    | _ => exact gen
  | _ => exact gen
/-- x in a list or a tuple -/
theorem memD_ok {n m : Nat} {f : Bool → Bool} {x y : PyData} {ds : List PyData} (hs : seqOf y = some ds) (hx : Ok n x) (hy : Ok m y) (hn : n ≤ 64) (hm : m ≤ 64) [Decidable (x ∈ ds)] : memD f x y = .ret (.sh (.bool (f (decide (x ∈ ds))))) := by
  have all : ∀ z ∈ ds, plain z = true := by
    cases y with
    | list xs =>
      cases hs
      exact plainAll_iff.mp (by have := hy.1; rwa [plain] at this)
    | tuple xs =>
      cases hs
      exact plainAll_iff.mp (by have := hy.1; rwa [plain] at this)
    | _ => cases hs
  unfold memD
  rw [hs]
  show (if _ then _ else _) = _
  rw [hx.okD hn, hy.okD hm, if_pos (show (true && true) = true from rfl)]
  congr 4
  by_cases h : x ∈ ds
  · rw [decide_eq_true h]
    exact List.any_eq_true.mpr ⟨x, h, (eqv_iff x x hx.1 hx.1).mpr rfl⟩
  · rw [decide_eq_false h]
    refine Bool.eq_false_iff.mpr fun z => ?_
    obtain ⟨w, hw, e⟩ := List.any_eq_true.mp z
    exact h ((eqv_iff w x (all w hw) hx.1).mp e ▸ hw)
end Dn
end
section
set_option Elab.async false
set_option linter.all false
set_option autoImplicit false
set_option maxRecDepth 100000
/-! P1: draws from a pot. -/
namespace Dn
open PySem

theorem gt_int {i j : Int} : gtD (.int i) (.int j) = .ret (.sh (.bool (decide (j < i)))) := rfl
theorem add_int {i j : Int} : addD (.int i) (.int j) = .ret (.sh (.int (i + j))) := rfl
theorem mod_int {i j : Int} (h : j ≠ 0) : modD (.int i) (.int j) = .ret (.sh (.int (i.fmod j))) := if_pos h
theorem mul_int {i j : Int} (h : (-(2 ^ 64) < i ∧ i < 2 ^ 64) ∨ (-(2 ^ 64) < j ∧ j < 2 ^ 64)) : mulX (.int i) (.int j) = .ret (.sh (.int (i * j))) := if_pos h
theorem fdiv_int {i j : Int} (h : j ≠ 0 ∧ j.natAbs < 1073741824) : fdivD (.int i) (.int j) = .ret (.sh (.int (i.fdiv j))) := if_pos h
theorem intOf_int {i : Int} : intOfD [.int i] = .ret (.sh (.int i)) := rfl
theorem pot0 {x y : AV} : potRead 0 0 [.pot, x, y] = .draw BIG fun d => .ret (.sh (PyData.int (d : Nat))) := rfl
theorem pot1 {x y : AV} : potRead 0 1 [.pot, x, y] = .draw LIM fun d => .ret (.sh (PyData.int (d : Nat))) := rfl
theorem pset0 {x y : AV} {v : Int} (h : 0 ≤ v ∧ v.toNat < BIG) : potG 0 0 (.int v) [.pot, x, y] = .ret [.pot, x, y] := if_pos ⟨h.1, .inl ⟨rfl, h.2⟩⟩
theorem pset1 {x y : AV} {v : Int} (h : 0 ≤ v ∧ v.toNat < LIM) : potG 0 1 (.int v) [.pot, x, y] = .ret [.pot, x, y] := if_pos ⟨h.1, .inr ⟨rfl, h.2⟩⟩
theorem divmod_int {i j : Int} (h : 0 < j ∧ j < 1073741824) : divmodD [.int i, .int j] = .ret (.sh (.tuple [.int (i / j), .int (i % j)])) := if_pos h
theorem fm (i j : Int) (h : 0 < j) : 0 ≤ i.fmod j ∧ i.fmod j < j := ⟨Int.fmod_nonneg_of_pos i h, Int.fmod_lt_of_pos i h⟩
theorem hold_draw {α : Type} {n : Nat} {k : Nat → T α} {p : α → Prop} (h0 : 0 < n) (h : ∀ d, d < n → Hold (k d) p) : Hold (.draw n k) p := ⟨h0, h⟩
theorem tup2 {g : List PyData → Env → T Env} {x y : PyData} {ρ : Env} : tupG 2 g (.tuple [x, y]) ρ = g [x, y] ρ := rfl
/-- what _law_draw does, its numbers put in -/
noncomputable def drawBody (A B M M2 C : Int) : Env → T Out := seqD (ifD (tB (bin gtD (oA (potRead 0 0)) (oA (kA (.int 0))))) (seqD (asgD (tupG 2 (consG (potG 0 0) (consG (gN 2) (g0)))) (cal divmodD (bC (oA (potRead 0 0)) (bC (vD 1) (b0))))) (sRet (vA 2))) (sNil))
  (seqD (asgD (potG 0 1) (bin modD (oA (cal intOfD (bC (oA (bin addD (oA (bin mulX (oA (potRead 0 1)) (oA (kA (.int A))))) (oA (kA (.int B))))) (b0)))) (oA (kA (.int M))))) (sRet (bin modD (oA (cal intOfD (bC (oA (bin fdivD (oA (bin modD (oA (cal intOfD (bC (oA (bin mulX (oA (potRead 0 1)) (oA (potRead 0 1)))) (b0)))) (oA (kA (.int M2))))) (oA (kA (.int C))))) (b0)))) (vD 1))))
theorem draw_gen {A B M M2 C : Int} {n : Nat} {p : AV → Prop} (hA : -(2 ^ 64) < A ∧ A < 2 ^ 64) (hM : 0 < M) (hM' : M < 2147483648) (hM2 : M2 ≠ 0) (hC : C ≠ 0 ∧ C.natAbs < 1073741824) (h0 : 0 < n) (h1 : n < 1073741824) (hp : ∀ d : Nat, d < n → p (.sh (.int d))) :
    Hold (runD 2 3 (drawBody A B M M2 C) [.pot, .sh (.int n)]) p := by
  have fin : ∀ i : Int, p (.sh (.int (i.fmod (n : Int)))) := fun i => by
    obtain ⟨a, b⟩ := fm i (n : Int) (by omega)
    have := hp (i.fmod (n : Int)).toNat (by omega)
    rwa [Int.toNat_of_nonneg a] at this
  unfold runD drawBody
  simp only [runD, seqD, ifD, setD, asgD, parD, par3D, setV, extD, appD, ownAt, vD, vA, oA, kA, fzA, bin, tB, tNot, tAnd, tOr, nA, andA, orA, ifA, chA, a0, aC, b0, bC, cal, calK, isA, is2A, slA, o0, oI, ixL, itS, itZ, itE, itE2, reprL, mulOwn, gN, g0, lamA, xO, sNil, sRet, sEx, sErr, sBk, sCt, sShare, bind_ret, bind_err, slA0, slAp, slAf, slAs, slD0, slDo, slDs, calling, toB, toD, toS, toI, frz, dataA, allS, mkTup, mkLst, itemsL, itemsT, share, share1, tupG, consG, List.append_nil, List.replicate, List.getElem?_cons_zero, List.getElem?_cons_succ, List.cons_append, List.nil_append, Nat.sub_self, List.length_cons, List.length_nil, List.set_cons_zero, List.set_cons_succ, List.foldl_cons, List.foldl_nil, if_true, if_false, ite_true, ite_false, reduceCtorEq, Nat.reduceAdd, Nat.reduceSub, Nat.reduceLeDiff, Bool.not_true, Bool.not_false, Bool.false_eq_true, pick, List.filterMap_cons, List.filterMap_nil, pot0, bind_draw, gt_int]
  refine hold_draw BIG_pos (fun d hd => ?_)
  by_cases hc : (0 : Int) < (d : Int)
  · simp only [hc, decide_true, runD, seqD, ifD, setD, asgD, parD, par3D, setV, extD, appD, ownAt, vD, vA, oA, kA, fzA, bin, tB, tNot, tAnd, tOr, nA, andA, orA, ifA, chA, a0, aC, b0, bC, cal, calK, isA, is2A, slA, o0, oI, ixL, itS, itZ, itE, itE2, reprL, mulOwn, gN, g0, lamA, xO, sNil, sRet, sEx, sErr, sBk, sCt, sShare, bind_ret, bind_err, slA0, slAp, slAf, slAs, slD0, slDo, slDs, calling, toB, toD, toS, toI, frz, dataA, allS, mkTup, mkLst, itemsL, itemsT, share, share1, tupG, consG, List.append_nil, List.replicate, List.getElem?_cons_zero, List.getElem?_cons_succ, List.cons_append, List.nil_append, Nat.sub_self, List.length_cons, List.length_nil, List.set_cons_zero, List.set_cons_succ, List.foldl_cons, List.foldl_nil, if_true, if_false, ite_true, ite_false, reduceCtorEq, Nat.reduceAdd, Nat.reduceSub, Nat.reduceLeDiff, Bool.not_true, Bool.not_false, Bool.false_eq_true, pick, List.filterMap_cons, List.filterMap_nil, pot0, bind_draw]
    refine hold_draw BIG_pos (fun d2 hd2 => ?_)
    have q0 : (0 : Int) ≤ (d2 : Int) / (n : Int) := Int.ediv_nonneg (by omega) (by omega)
    have q1 : ((d2 : Int) / (n : Int)).toNat < BIG := by
      have : (d2 : Int) / (n : Int) = ((d2 / n : Nat) : Int) := by simp
      rw [this, Int.toNat_natCast]
      exact Nat.lt_of_le_of_lt (Nat.div_le_self _ _) hd2
    have e : (d2 : Int) % (n : Int) = ((d2 % n : Nat) : Int) := by simp
    simp only [divmod_int (i := (d2 : Int)) (j := (n : Int)) ⟨by omega, by omega⟩, runD, seqD, ifD, setD, asgD, parD, par3D, setV, extD, appD, ownAt, vD, vA, oA, kA, fzA, bin, tB, tNot, tAnd, tOr, nA, andA, orA, ifA, chA, a0, aC, b0, bC, cal, calK, isA, is2A, slA, o0, oI, ixL, itS, itZ, itE, itE2, reprL, mulOwn, gN, g0, lamA, xO, sNil, sRet, sEx, sErr, sBk, sCt, sShare, bind_ret, bind_err, slA0, slAp, slAf, slAs, slD0, slDo, slDs, calling, toB, toD, toS, toI, frz, dataA, allS, mkTup, mkLst, itemsL, itemsT, share, share1, tupG, consG, List.append_nil, List.replicate, List.getElem?_cons_zero, List.getElem?_cons_succ, List.cons_append, List.nil_append, Nat.sub_self, List.length_cons, List.length_nil, List.set_cons_zero, List.set_cons_succ, List.foldl_cons, List.foldl_nil, if_true, if_false, ite_true, ite_false, reduceCtorEq, Nat.reduceAdd, Nat.reduceSub, Nat.reduceLeDiff, Bool.not_true, Bool.not_false, Bool.false_eq_true, pick, List.filterMap_cons, List.filterMap_nil, tup2, pset0 ⟨q0, q1⟩, e]
    exact hp _ (Nat.mod_lt _ h0)
  · simp only [hc, decide_false, runD, seqD, ifD, setD, asgD, parD, par3D, setV, extD, appD, ownAt, vD, vA, oA, kA, fzA, bin, tB, tNot, tAnd, tOr, nA, andA, orA, ifA, chA, a0, aC, b0, bC, cal, calK, isA, is2A, slA, o0, oI, ixL, itS, itZ, itE, itE2, reprL, mulOwn, gN, g0, lamA, xO, sNil, sRet, sEx, sErr, sBk, sCt, sShare, bind_ret, bind_err, slA0, slAp, slAf, slAs, slD0, slDo, slDs, calling, toB, toD, toS, toI, frz, dataA, allS, mkTup, mkLst, itemsL, itemsT, share, share1, tupG, consG, List.append_nil, List.replicate, List.getElem?_cons_zero, List.getElem?_cons_succ, List.cons_append, List.nil_append, Nat.sub_self, List.length_cons, List.length_nil, List.set_cons_zero, List.set_cons_succ, List.foldl_cons, List.foldl_nil, if_true, if_false, ite_true, ite_false, reduceCtorEq, Nat.reduceAdd, Nat.reduceSub, Nat.reduceLeDiff, Bool.not_true, Bool.not_false, Bool.false_eq_true, pick, List.filterMap_cons, List.filterMap_nil, pot1, bind_draw]
    refine hold_draw LIM_pos (fun d2 hd2 => ?_)
    have hM0 : M ≠ 0 := by omega
    simp only [mul_int (i := (d2 : Int)) (j := A) (.inr hA), runD, seqD, ifD, setD, asgD, parD, par3D, setV, extD, appD, ownAt, vD, vA, oA, kA, fzA, bin, tB, tNot, tAnd, tOr, nA, andA, orA, ifA, chA, a0, aC, b0, bC, cal, calK, isA, is2A, slA, o0, oI, ixL, itS, itZ, itE, itE2, reprL, mulOwn, gN, g0, lamA, xO, sNil, sRet, sEx, sErr, sBk, sCt, sShare, bind_ret, bind_err, slA0, slAp, slAf, slAs, slD0, slDo, slDs, calling, toB, toD, toS, toI, frz, dataA, allS, mkTup, mkLst, itemsL, itemsT, share, share1, tupG, consG, List.append_nil, List.replicate, List.getElem?_cons_zero, List.getElem?_cons_succ, List.cons_append, List.nil_append, Nat.sub_self, List.length_cons, List.length_nil, List.set_cons_zero, List.set_cons_succ, List.foldl_cons, List.foldl_nil, if_true, if_false, ite_true, ite_false, reduceCtorEq, Nat.reduceAdd, Nat.reduceSub, Nat.reduceLeDiff, Bool.not_true, Bool.not_false, Bool.false_eq_true, pick, List.filterMap_cons, List.filterMap_nil, add_int, intOf_int, mod_int hM0]
    obtain ⟨a, b⟩ := fm ((d2 : Int) * A + B) M hM
    have hl : (((d2 : Int) * A + B).fmod M).toNat < LIM := by
      rw [LIM_eq]
      omega
    simp only [pset1 ⟨a, hl⟩, runD, seqD, ifD, setD, asgD, parD, par3D, setV, extD, appD, ownAt, vD, vA, oA, kA, fzA, bin, tB, tNot, tAnd, tOr, nA, andA, orA, ifA, chA, a0, aC, b0, bC, cal, calK, isA, is2A, slA, o0, oI, ixL, itS, itZ, itE, itE2, reprL, mulOwn, gN, g0, lamA, xO, sNil, sRet, sEx, sErr, sBk, sCt, sShare, bind_ret, bind_err, slA0, slAp, slAf, slAs, slD0, slDo, slDs, calling, toB, toD, toS, toI, frz, dataA, allS, mkTup, mkLst, itemsL, itemsT, share, share1, tupG, consG, List.append_nil, List.replicate, List.getElem?_cons_zero, List.getElem?_cons_succ, List.cons_append, List.nil_append, Nat.sub_self, List.length_cons, List.length_nil, List.set_cons_zero, List.set_cons_succ, List.foldl_cons, List.foldl_nil, if_true, if_false, ite_true, ite_false, reduceCtorEq, Nat.reduceAdd, Nat.reduceSub, Nat.reduceLeDiff, Bool.not_true, Bool.not_false, Bool.false_eq_true, pick, List.filterMap_cons, List.filterMap_nil, pot1, bind_draw]
    refine hold_draw LIM_pos (fun d3 hd3 => ?_)
    refine hold_draw LIM_pos (fun d4 hd4 => ?_)
    rw [LIM_eq] at hd3 hd4
    have hn : (n : Int) ≠ 0 := by omega
    simp only [mul_int (i := (d3 : Int)) (j := (d4 : Int)) (.inl ⟨by omega, by omega⟩), runD, seqD, ifD, setD, asgD, parD, par3D, setV, extD, appD, ownAt, vD, vA, oA, kA, fzA, bin, tB, tNot, tAnd, tOr, nA, andA, orA, ifA, chA, a0, aC, b0, bC, cal, calK, isA, is2A, slA, o0, oI, ixL, itS, itZ, itE, itE2, reprL, mulOwn, gN, g0, lamA, xO, sNil, sRet, sEx, sErr, sBk, sCt, sShare, bind_ret, bind_err, slA0, slAp, slAf, slAs, slD0, slDo, slDs, calling, toB, toD, toS, toI, frz, dataA, allS, mkTup, mkLst, itemsL, itemsT, share, share1, tupG, consG, List.append_nil, List.replicate, List.getElem?_cons_zero, List.getElem?_cons_succ, List.cons_append, List.nil_append, Nat.sub_self, List.length_cons, List.length_nil, List.set_cons_zero, List.set_cons_succ, List.foldl_cons, List.foldl_nil, if_true, if_false, ite_true, ite_false, reduceCtorEq, Nat.reduceAdd, Nat.reduceSub, Nat.reduceLeDiff, Bool.not_true, Bool.not_false, Bool.false_eq_true, pick, List.filterMap_cons, List.filterMap_nil, intOf_int, mod_int hM2, fdiv_int hC, mod_int hn]
    exact fin _
end Dn
end
section
set_option Elab.async false
set_option linter.all false
set_option autoImplicit false
set_option maxRecDepth 100000
/-! R1: how long a text repr makes. -/
namespace Dn
open PySem PyProof.Rows

mutual
def wt : PyData → Nat
  | .none => 4
  | .bool _ => 5
  | .int i => (PyData.shown (.int i)).length
  | .str x => (PyData.shown (.str x)).length
  | .list xs => 5 + wtAll xs
  | .tuple xs => 5 + wtAll xs
  | .dict _ => 0
def wtAll : List PyData → Nat
  | [] => 0
  | x :: xs => wt x + 2 + wtAll xs
end
def sumL (ts : List Str) : Nat := (ts.map fun t => t.length + 2).sum
theorem textFrom_le : ∀ (ts : List Str) (k : Nat) (acc : Str), (textFrom k acc ts).length ≤ acc.length + sumL ts
  | [], k, acc => Nat.le_refl _
  | t :: r, k, acc => by
    have ih := textFrom_le r (k + 1) (acc ++ (if k > 0 then ", " else "" : String) ++ t)
    have e : (acc ++ (if k > 0 then ", " else "" : String) ++ t).length ≤ acc.length + 2 + t.length := by
      rw [Str.length_append, Str.length_append]
      split
      · have : ((", " : String) : Str).length = 2 := rfl
        omega
      · have : (("" : String) : Str).length = 0 := rfl
        omega
    have e2 : sumL (t :: r) = t.length + 2 + sumL r := by
      unfold sumL
      rw [List.map_cons, List.sum_cons]
    show (textFrom (k + 1) (acc ++ (if k > 0 then ", " else "" : String) ++ t) r).length ≤ _
    omega
theorem listText_le (ts : List Str) : (listText ts).length ≤ 2 + sumL ts := by
  have h := textFrom_le ts 0 "["
  unfold listText
  rw [Str.length_append]
  have e1 : (("[" : String) : Str).length = 1 := rfl
  have e2 : (("]" : String) : Str).length = 1 := rfl
  omega
theorem piled_sum : ∀ ts : List Str, piled ts = sumL ts
  | [] => rfl
  | t :: r => by
    have ih := piled_sum r
    unfold sumL at ih ⊢
    rw [List.map_cons, List.sum_cons, ← ih]
    unfold piled
    simp
theorem tupleText_le (ts : List Str) : (tupleText ts).length ≤ 5 + sumL ts := by
  unfold tupleText
  rw [Str.length_append, Str.length_append]
  have e1 : (("(" : String) : Str).length = 1 := rfl
  have h2 : ((if ts.length == 1 then ",)" else ")" : String) : Str).length ≤ 2 := by
    split
    · exact Nat.le_refl 2
    · show 1 ≤ 2
      omega
  cases ts with
  | nil =>
    have : (Str.join ", " []).length = 0 := rfl
    omega
  | cons t r =>
    have := join_length_add (t :: r) (by simp)
    rw [piled_sum] at this
    omega
mutual
theorem shown_le : ∀ d : PyData, d.hasDict = false → d.shown.length ≤ wt d
  | .none, _ => by
    rw [wt, PyData.shown]
    decide
  | .bool b, _ => by
    rw [wt, PyData.shown]
    cases b <;> decide
  | .int i, _ => by
    rw [wt]
    exact Nat.le_refl _
  | .str x, _ => by
    rw [wt]
    exact Nat.le_refl _
  | .list xs, h => by
    rw [PyData.hasDict] at h
    have := shownAll_le xs h
    have q := listText_le (PyData.shownAll xs)
    rw [wt, PyData.shown]
    omega
  | .tuple xs, h => by
    rw [PyData.hasDict] at h
    have := shownAll_le xs h
    have q := tupleText_le (PyData.shownAll xs)
    rw [wt, PyData.shown]
    omega
  | .dict _, h => by
    rw [PyData.hasDict] at h
    cases h
theorem shownAll_le : ∀ xs : List PyData, PyData.hasDictAll xs = false → sumL (PyData.shownAll xs) ≤ wtAll xs
  | [], _ => Nat.le_refl _
  | x :: xs, h => by
    rw [PyData.hasDictAll, Bool.or_eq_false_iff] at h
    have h1 := shown_le x h.1
    have h2 := shownAll_le xs h.2
    have e : sumL (PyData.shownAll (x :: xs)) = x.shown.length + 2 + sumL (PyData.shownAll xs) := by
      rw [PyData.shownAll]
      unfold sumL
      rw [List.map_cons, List.sum_cons]
    rw [e, wtAll]
    omega
end
/-- data whose text is short -/
def Rp (k m : Nat) (d : PyData) : Prop := d.showable = true ∧ d.hasDict = false ∧ d.depth ≤ m ∧ wt d ≤ k
theorem rp_all {k m : Nat} : ∀ {xs : List PyData}, (∀ x ∈ xs, Rp k m x) → PyData.showableAll xs = true ∧ PyData.hasDictAll xs = false ∧ PyData.depthAll xs ≤ m ∧ wtAll xs ≤ xs.length * (k + 2)
  | [], _ => ⟨by rw [PyData.showableAll], by rw [PyData.hasDictAll], by rw [PyData.depthAll]; exact Nat.zero_le _, Nat.zero_le _⟩
  | x :: xs, h => by
    obtain ⟨a1, a2, a3, a4⟩ := h x List.mem_cons_self
    obtain ⟨b1, b2, b3, b4⟩ := rp_all fun y hy => h y (List.mem_cons_of_mem _ hy)
    refine ⟨by rw [PyData.showableAll, a1, b1]; rfl, by rw [PyData.hasDictAll, a2, b2]; rfl, by rw [PyData.depthAll]; exact Nat.max_le.mpr ⟨a3, b3⟩, ?_⟩
    rw [wtAll, List.length_cons, Nat.add_mul, Nat.one_mul]
    omega
theorem Rp.list {k m n : Nat} {xs : List PyData} (h : ∀ x ∈ xs, Rp k m x) (hn : xs.length ≤ n) : Rp (5 + n * (k + 2)) (m + 1) (.list xs) := by
  obtain ⟨h1, h2, h3, h4⟩ := rp_all h
  refine ⟨by rw [PyData.showable]; exact h1, by rw [PyData.hasDict]; exact h2, by rw [PyData.depth]; omega, ?_⟩
  rw [wt]
  have := Nat.mul_le_mul_right (k + 2) hn
  omega
theorem Rp.tuple {k m n : Nat} {xs : List PyData} (h : ∀ x ∈ xs, Rp k m x) (hn : xs.length ≤ n) : Rp (5 + n * (k + 2)) (m + 1) (.tuple xs) := by
  obtain ⟨h1, h2, h3, h4⟩ := rp_all h
  refine ⟨by rw [PyData.showable]; exact h1, by rw [PyData.hasDict]; exact h2, by rw [PyData.depth]; omega, ?_⟩
  rw [wt]
  have := Nat.mul_le_mul_right (k + 2) hn
  omega
theorem Rp.mono {k k' m m' : Nat} {d : PyData} (h : Rp k m d) (hk : k ≤ k') (hm : m ≤ m') : Rp k' m' d := ⟨h.1, h.2.1, Nat.le_trans h.2.2.1 hm, Nat.le_trans h.2.2.2 hk⟩
theorem Rp.two {k m : Nat} {x y : PyData} (hx : Rp k m x) (hy : Rp k m y) : ∀ z ∈ [x, y], Rp k m z := fun z hz => by
  rcases List.mem_cons.mp hz with rfl | hz
  · exact hx
  · rw [List.mem_singleton.mp hz]
    exact hy
theorem digit_len : ∀ a : Fin 100, (PyData.shown (.int ((a.val : Nat) : Int))).length ≤ 2 := by decide +kernel
theorem Rp.digit {a : Nat} (h : a < 100) : Rp 2 0 (.int (a : Int)) := by
  refine ⟨?_, by rw [PyData.hasDict], by rw [PyData.depth]; exact Nat.le_refl 0, by rw [wt]; exact digit_len ⟨a, h⟩⟩
  rw [PyData.showable]
  have : ((a : Int)).natAbs.log2 ≤ a := by
    rw [Int.natAbs_natCast]
    exact Nat.log2_le_self a
  exact decide_eq_true (by omega)
theorem Rp.bool (b : Bool) : Rp 5 0 (.bool b) := ⟨by rw [PyData.showable], by rw [PyData.hasDict], by rw [PyData.depth]; exact Nat.le_refl 0, by rw [wt]; exact Nat.le_refl 5⟩
/-- repr of a list -/
theorem repr_list {k m : Nat} {xs : List PyData} (h : Rp k m (.list xs)) (hk : k ≤ 16000000) (hm : m ≤ 64) : reprD [.list xs] = .ret (.sh (.str (PyData.shown (.list xs)))) := by
  obtain ⟨h1, h2, h3, h4⟩ := h
  have h5 := shown_le _ h2
  have hs : (16000000 : Nat) ≤ sizeLine := by decide
  show (if ((isRef (.list xs) && PyData.showable (.list xs)) && ((!PyData.hasDict (.list xs) && decide (PyData.depth (.list xs) ≤ 64)) && decide ((PyData.shown (.list xs)).length ≤ sizeLine))) = true then _ else _) = _
  rw [h1, h2, decide_eq_true (Nat.le_trans h3 hm), decide_eq_true (show (PyData.shown (.list xs)).length ≤ sizeLine by omega)]
  rfl
end Dn
end
section
set_option Elab.async false
set_option linter.all false
set_option autoImplicit false
set_option maxRecDepth 100000
/-! E1: encodings and reckoning, of no one law (taken together by ext.py out of k94's texts). -/
namespace Mf
open PySem Dn
open Classical
abbrev iD (n : Nat) : PyData := .int (n : Int)
def encT (l : List Nat) : PyData := .tuple (l.map iD)
def encN (l : List Nat) : PyData := .list (l.map iD)
def rowOf (n : Nat) (R : Nat → Nat → Bool) (i : Nat) : List Nat := (List.range n).filter (R i)
def encF (n : Nat) (R : Nat → Nat → Bool) : PyData := .tuple ((List.range n).map fun i => encT (rowOf n R i))
theorem upFrom0 (n : Nat) : upFrom 0 n = (List.range n).map iD := by
  unfold upFrom
  refine List.map_congr_left fun i _ => ?_
  show PyData.int (0 + (i : Int)) = PyData.int i
  rw [Int.zero_add]
theorem itR_n {ρ : Dn.Env} {f : Dn.Env → T PyData} {n : Nat} (h : f ρ = .ret (.int n)) (hn : n ≤ 100000) : itR f ρ = .ret ((List.range n).map iD) := by
  show (f ρ).bind _ = _
  rw [h, bind_ret]
  show (if _ then _ else _) = _
  rw [if_pos (by omega), Int.toNat_natCast, upFrom0]
theorem iD_inj {a b : Nat} (h : iD a = iD b) : a = b := by
  have := PyData.int.inj h
  omega
theorem mem_iD {a : Nat} {l : List Nat} : iD a ∈ l.map iD ↔ a ∈ l := ⟨fun h => by
  obtain ⟨b, hb, e⟩ := List.mem_map.mp h
  rw [← iD_inj e]
  exact hb, fun h => List.mem_map.mpr ⟨a, h, rfl⟩⟩
theorem mem_row {n : Nat} {R : Nat → Nat → Bool} {i j : Nat} : j ∈ rowOf n R i ↔ j < n ∧ R i j = true := by
  unfold rowOf
  rw [List.mem_filter, List.mem_range]
theorem ok_encT (l : List Nat) : Ok 1 (encT l) := Ok.tuple fun x hx => by
  obtain ⟨a, _, rfl⟩ := List.mem_map.mp hx
  exact Ok.int _
theorem ok_encN (l : List Nat) : Ok 1 (encN l) := Ok.list fun x hx => by
  obtain ⟨a, _, rfl⟩ := List.mem_map.mp hx
  exact Ok.int _
theorem ok_encF (n : Nat) (R : Nat → Nat → Bool) : Ok 2 (encF n R) := Ok.tuple fun x hx => by
  obtain ⟨a, _, rfl⟩ := List.mem_map.mp hx
  exact ok_encT _
theorem atI_nat {ds : List PyData} {i : Nat} (h : i < ds.length) : L2.atI ds (i : Int) = ds[i]? := by
  unfold L2.atI L2.ixN
  rw [if_pos (by omega), if_pos (by omega), Int.toNat_natCast]
  rfl
theorem ix_list {ds : List PyData} {i : Nat} {d : PyData} (h : ds[i]? = some d) : ixD (.list ds) (iD i) = .ret (.sh d) := by
  show (match L2.atI ds (i : Int) with
    | some d => T.ret (AV.sh d)
    | none => .err) = _
  rw [atI_nat (lt_of_get h), h]
theorem ix_tup {ds : List PyData} {i : Nat} {d : PyData} (h : ds[i]? = some d) : ixD (.tuple ds) (iD i) = .ret (.sh d) := by
  show (match L2.atI ds (i : Int) with
    | some d => T.ret (AV.sh d)
    | none => .err) = _
  rw [atI_nat (lt_of_get h), h]
theorem get_iD {l : List Nat} {i : Nat} (h : i < l.length) : (l.map iD)[i]? = some (iD (l.getD i 0)) := by
  rw [List.getElem?_map, List.getElem?_eq_getElem h, List.getD_eq_getElem?_getD, List.getElem?_eq_getElem h]
  rfl
theorem ix_N {l : List Nat} {i : Nat} (h : i < l.length) : ixD (encN l) (iD i) = .ret (.sh (iD (l.getD i 0))) := ix_list (get_iD h)
theorem ix_F {n : Nat} {R : Nat → Nat → Bool} {i : Nat} (h : i < n) : ixD (encF n R) (iD i) = .ret (.sh (encT (rowOf n R i))) := ix_tup (by
  rw [List.getElem?_map, List.getElem?_range h]
  rfl)
theorem mem_T {f : Bool → Bool} {a : Nat} {l : List Nat} : memD f (iD a) (encT l) = .ret (.sh (.bool (f (decide (a ∈ l))))) := by
  have d : Decidable (iD a ∈ l.map iD) := decidable_of_iff _ (mem_iD (a := a) (l := l)).symm
  rw [memD_ok (ds := l.map iD) rfl (Ok.int (n := 0) _) (ok_encT l) (by decide) (by decide)]
  congr 4
  exact decide_eq_decide.mpr mem_iD
theorem mem_N {f : Bool → Bool} {a : Nat} {l : List Nat} : memD f (iD a) (encN l) = .ret (.sh (.bool (f (decide (a ∈ l))))) := by
  have d : Decidable (iD a ∈ l.map iD) := decidable_of_iff _ (mem_iD (a := a) (l := l)).symm
  rw [memD_ok (ds := l.map iD) rfl (Ok.int (n := 0) _) (ok_encN l) (by decide) (by decide)]
  congr 4
  exact decide_eq_decide.mpr mem_iD
theorem mem_F {f : Bool → Bool} {n : Nat} {R : Nat → Nat → Bool} {i j : Nat} (hj : j < n) : memD f (iD j) (encT (rowOf n R i)) = .ret (.sh (.bool (f (R i j)))) := by
  rw [mem_T]
  congr 4
  cases h : R i j with
  | true => exact decide_eq_true (mem_row.mpr ⟨hj, h⟩)
  | false => exact decide_eq_false fun z => by rw [(mem_row.mp z).2] at h; cases h
theorem len_F {n : Nat} {R : Nat → Nat → Bool} : lenD [encF n R] = .ret (.sh (iD n)) := by
  show T.ret (AV.sh (.int _)) = _
  rw [List.length_map, List.length_range]
def act (p : List Nat) (R : Nat → Nat → Bool) : Nat → Nat → Bool := fun i j => R (p.getD i 0) (p.getD j 0)
def Names (n : Nat) (p : List Nat) : Prop := p.length = n ∧ ∀ a ∈ p, a < n
theorem Names.lt {n : Nat} {p : List Nat} (h : Names n p) {i : Nat} (hi : i < n) : p.getD i 0 < n := by
  have hl : i < p.length := by rw [h.1]; exact hi
  rw [List.getD_eq_getElem?_getD, List.getElem?_eq_getElem hl]
  exact h.2 _ (List.getElem_mem hl)
theorem lcG {α : Type} {vs : List Nat} {g : PyData → Dn.Env → T Dn.Env} {t : Dn.Env → T Bool} {f : Dn.Env → T AV} {ρ : Dn.Env} {e : α → PyData} (ρ' : α → Dn.Env) (b : α → Bool) (y : α → PyData) : ∀ (l : List α), (∀ a ∈ l, g (e a) (wipeE vs ρ) = .ret (ρ' a)) → (∀ a ∈ l, t (ρ' a) = .ret (b a)) → (∀ a ∈ l, b a = true → (f (ρ' a)).bind toS = .ret (y a)) →
    lcItems vs g t f ρ (l.map e) = .ret ((l.filter b).map y)
  | [], _, _, _ => rfl
  | a :: l, hg, ht, hf => by
    have ih := lcG ρ' b y l (fun c hc => hg c (List.mem_cons_of_mem _ hc)) (fun c hc => ht c (List.mem_cons_of_mem _ hc)) (fun c hc => hf c (List.mem_cons_of_mem _ hc))
    show ((g (e a) (wipeE vs ρ)).bind fun ρ1 => _) = _
    rw [hg a List.mem_cons_self, bind_ret, ht a List.mem_cons_self, bind_ret]
    cases hb : b a with
    | false => rw [if_neg (by simp), ih, List.filter_cons_of_neg (by simp [hb])]
    | true => rw [if_pos rfl, hf a List.mem_cons_self hb, bind_ret, ih, bind_ret, List.filter_cons_of_pos hb, List.map_cons]
abbrev yes : T AV := .ret (.sh (.bool true))
theorem all_true {α : Type} (l : List α) : allD [.list (l.map fun _ => PyData.bool true)] = yes := by
  have e : boolsOf (l.map fun _ => PyData.bool true) = some (l.map fun _ => true) := by
    induction l with
    | nil => rfl
    | cons a l ih =>
      show (match boolsOf (l.map fun _ => PyData.bool true) with
        | some bs => some (true :: bs)
        | none => none) = _
      rw [ih] <;> rfl
  show optT (boolsOf _) _ = _
  rw [e]
  show T.ret (AV.sh (.bool _)) = _
  congr 3
  simp
theorem le_II {i j : Int} : leD (.int i) (.int j) = .ret (.sh (.bool (decide (i ≤ j)))) := rfl
theorem cut1 (ds : List PyData) : Dn.cutD ds (some 1) none = ds.drop 1 := by
  cases ds with
  | nil => rfl
  | cons d r =>
    unfold Dn.cutD
    have e1 : HT.sIx (d :: r).length 0 (some 1) = 1 := by
      unfold HT.sIx
      simp
    have e2 : HT.sIx (d :: r).length (d :: r).length none = (d :: r).length := rfl
    rw [e1, e2]
    exact List.take_of_length_le (by simp)
theorem row_up (n : Nat) (R : Nat → Nat → Bool) (i : Nat) : (rowOf n R i).Pairwise (· < ·) := List.Pairwise.filter _ List.pairwise_lt_range
theorem eq_len {a b : Nat} : eqA (iD a) (iD b) = .ret (.sh (.bool (decide (a = b)))) := by
  have d : Decidable (iD a = iD b) := decidable_of_iff (a = b) ⟨fun h => by rw [h], iD_inj⟩
  rw [eqA_ok (Ok.int (n := 0) _) (Ok.int (n := 0) _) (by decide) (by decide)]
  congr 3
  exact decide_eq_decide.mpr ⟨iD_inj, fun h => by rw [h]⟩
/-! ### steps -/
section
variable {f g h : Dn.Env → T Out} {c : Dn.Env → T Bool} {e : Dn.Env → T AV} {ρ ρ' : Dn.Env} {av : AV}
theorem seq_nx (h : f ρ = .ret (.nx ρ')) : seqD f g ρ = g ρ' := by
  unfold seqD
  rw [h]
  rfl
theorem seq_rt (h : f ρ = .ret (.rt av)) : seqD f g ρ = .ret (.rt av) := by
  unfold seqD
  rw [h]
  rfl
theorem ex_ok (h : e ρ = .ret av) : sEx e ρ = .ret (.nx ρ) := by
  show (e ρ).bind _ = _
  rw [h]
  rfl
theorem ret_ok (h : e ρ = .ret av) : sRet e ρ = .ret (.rt av) := by
  show (e ρ).bind _ = _
  rw [h]
  rfl
theorem if_t (h : c ρ = .ret true) : ifD c f g ρ = f ρ := by
  unfold ifD
  rw [h]
  rfl
theorem if_f (h : c ρ = .ret false) : ifD c f g ρ = g ρ := by
  unfold ifD
  rw [h]
  rfl
theorem set_ok {i : Nat} (h : e ρ = .ret av) (hn : av ≠ .no) : setD i e ρ = .ret (.nx (ρ.set i av)) := by
  unfold setD
  rw [h, bind_ret]
  cases av with
  | no => exact absurd rfl hn
  | _ => rfl
theorem fz_ok {av' : AV} (h : e ρ = .ret av) (hv : frz av = av') : fzA e ρ = .ret av' := by
  show (e ρ).bind _ = _
  rw [h, ← hv]
  rfl
theorem cal_ok {α β : Type} {k : α → T β} {m : Dn.Env → T α} {a : α} (h : m ρ = .ret a) : cal k m ρ = k a := by
  show (m ρ).bind _ = _
  rw [h]
  rfl
theorem oA_sh {d : PyData} (h : e ρ = .ret (.sh d)) : oA e ρ = .ret d := by
  show (e ρ).bind _ = _
  rw [h]
  rfl
theorem oA_own {ds : List PyData} (h : e ρ = .ret (.own ds)) : oA e ρ = .ret (.list ds) := by
  show (e ρ).bind _ = _
  rw [h]
  rfl
theorem bin_ok {k : PyData → PyData → T AV} {a b : Dn.Env → T PyData} {x y : PyData} (h1 : a ρ = .ret x) (h2 : b ρ = .ret y) : bin k a b ρ = k x y := by
  show (a ρ).bind _ = _
  rw [h1, bind_ret, h2]
  rfl
theorem tB_ok {b : Bool} (h : e ρ = .ret (.sh (.bool b))) : tB e ρ = .ret b := by
  show (e ρ).bind _ = _
  rw [h]
  rfl
theorem tNot_ok {b : Bool} (h : c ρ = .ret b) : tNot c ρ = .ret (!b) := by
  show (c ρ).bind _ = _
  rw [h]
  rfl
theorem tOr_t {c' : Dn.Env → T Bool} (h : c ρ = .ret true) : tOr c c' ρ = .ret true := by
  show (c ρ).bind _ = _
  rw [h]
  rfl
theorem tOr_f {c' : Dn.Env → T Bool} (h : c ρ = .ret false) : tOr c c' ρ = c' ρ := by
  show (c ρ).bind _ = _
  rw [h]
  rfl
theorem tAnd_t {c' : Dn.Env → T Bool} (h : c ρ = .ret true) : tAnd c c' ρ = c' ρ := by
  show (c ρ).bind _ = _
  rw [h]
  rfl
theorem tAnd_f {c' : Dn.Env → T Bool} (h : c ρ = .ret false) : tAnd c c' ρ = .ret false := by
  show (c ρ).bind _ = _
  rw [h]
  rfl
theorem andA_t {e' : Dn.Env → T AV} (h : e ρ = .ret (.sh (.bool true))) : andA e e' ρ = e' ρ := by
  show ((e ρ).bind _).bind _ = _
  rw [h]
  rfl
theorem andA_f {e' : Dn.Env → T AV} (h : e ρ = .ret (.sh (.bool false))) : andA e e' ρ = .ret (.sh (.bool false)) := by
  show ((e ρ).bind _).bind _ = _
  rw [h]
  rfl
theorem ifA_t {e e' : Dn.Env → T AV} (h : c ρ = .ret true) : ifA c e e' ρ = e ρ := by
  show (c ρ).bind _ = _
  rw [h]
  rfl
theorem ifA_f {e e' : Dn.Env → T AV} (h : c ρ = .ret false) : ifA c e e' ρ = e' ρ := by
  show (c ρ).bind _ = _
  rw [h]
  rfl
theorem aC_ok {m : Dn.Env → T (List AV)} {as : List AV} (h1 : e ρ = .ret av) (h2 : m ρ = .ret as) : aC e m ρ = .ret (frz av :: as) := by
  show (e ρ).bind _ = _
  rw [h1, bind_ret, h2]
  rfl
theorem bC_ok {a : Dn.Env → T PyData} {m : Dn.Env → T (List PyData)} {x : PyData} {xs : List PyData} (h1 : a ρ = .ret x) (h2 : m ρ = .ret xs) : bC a m ρ = .ret (x :: xs) := by
  show (a ρ).bind _ = _
  rw [h1, bind_ret, h2]
  rfl
theorem run_rt {n N : Nat} {as : List AV} (h : f (as ++ List.replicate (N - n) .no) = .ret (.rt av)) : runD n N f as = .ret av := by
  unfold runD
  rw [h]
  rfl
theorem run_nx {n N : Nat} {as : List AV} (h : f (as ++ List.replicate (N - n) .no) = .ret (.nx ρ')) : runD n N f as = .ret (.sh .none) := by
  unfold runD
  rw [h]
  rfl
end
theorem sub1 (n : Nat) : subD (iD n) (.int 1) = .ret (.sh (.int ((n : Int) - 1))) := rfl
abbrev no : T AV := .ret (.sh (.bool false))
theorem ne_len {a b : Nat} : neA (iD a) (iD b) = .ret (.sh (.bool (!decide (a = b)))) := by
  have d : Decidable (iD a = iD b) := decidable_of_iff (a = b) ⟨fun h => by rw [h], iD_inj⟩
  rw [neA_ok (Ok.int (n := 0) _) (Ok.int (n := 0) _) (by decide) (by decide)]
  congr 4
  exact decide_eq_decide.mpr ⟨iD_inj, fun h => by rw [h]⟩
/-- a sequence of names, a list or a tuple -/
def IsSeq (d : PyData) (p : List Nat) : Prop := d = encN p ∨ d = encT p
theorem IsSeq.len {d : PyData} {p : List Nat} (h : IsSeq d p) : lenD [d] = .ret (.sh (iD p.length)) := by
  rcases h with rfl | rfl
  · show T.ret (AV.sh (.int _)) = _
    rw [List.length_map]
  · show T.ret (AV.sh (.int _)) = _
    rw [List.length_map]
theorem IsSeq.items {d : PyData} {p : List Nat} (h : IsSeq d p) : itemsD d = .ret (p.map iD) := by
  rcases h with rfl | rfl <;> rfl
theorem IsSeq.list {d : PyData} {p : List Nat} (h : IsSeq d p) : listD [d] = .ret (.own (p.map iD)) := by
  rcases h with rfl | rfl <;> rfl
theorem IsSeq.ty {d : PyData} {p : List Nat} (h : IsSeq d p) : (isTy "list" d || isTy "tuple" d) = true := by
  rcases h with rfl | rfl
  · show (isTy "list" (.list _) || isTy "tuple" (.list _)) = true
    simp [isTy, tyName]
  · show (isTy "list" (.tuple _) || isTy "tuple" (.tuple _)) = true
    simp [isTy, tyName]
/-- the names of a relation of n things: each once -/
structure Perm (n : Nat) (p : List Nat) : Prop where
  len : p.length = n
  lt : ∀ a ∈ p, a < n
  nd : p.Nodup
theorem Perm.names {n : Nat} {p : List Nat} (h : Perm n p) : Names n p := ⟨h.len, h.lt⟩
theorem perm_of_sub : ∀ (p q : List Nat), p.Nodup → (∀ a ∈ p, a ∈ q) → q.length ≤ p.length → p.Perm q
  | [], q, _, _, h => by
    have : q = [] := List.length_eq_zero_iff.mp (by simpa using h)
    rw [this]
  | a :: p, q, hn, hs, hl => by
    rw [List.nodup_cons] at hn
    have ha := hs a List.mem_cons_self
    have hq := List.perm_cons_erase ha
    have hlen := List.length_erase_of_mem ha
    rw [List.length_cons] at hl
    have ih := perm_of_sub p (q.erase a) hn.2 (fun b hb => (List.mem_erase_of_ne (by intro e; subst e; exact hn.1 hb)).mpr (hs b (List.mem_cons_of_mem _ hb))) (by omega)
    exact (ih.cons a).trans hq.symm
theorem Perm.perm {n : Nat} {p : List Nat} (h : Perm n p) : p.Perm (List.range n) := by
  refine perm_of_sub p _ h.nd (fun a ha => List.mem_range.mpr (h.lt a ha)) ?_
  rw [List.length_range, h.len]
  exact Nat.le_refl n
theorem Perm.of {n : Nat} {p : List Nat} (h : p.Perm (List.range n)) : Perm n p := ⟨by rw [h.length_eq, List.length_range], fun a ha => List.mem_range.mp (h.mem_iff.mp ha), h.nodup_iff.mpr List.nodup_range⟩
theorem ints_iD (l : List Nat) : intsOf (l.map iD) = some (l.map fun n : Nat => (n : Int)) := by
  induction l with
  | nil => rfl
  | cons a l ih =>
    show (match intsOf (l.map iD) with
      | some bs => some ((a : Int) :: bs)
      | none => none) = _
    rw [ih] <;> rfl
theorem nub_of {l : List Int} (h : l.Nodup) : (nub l).length = l.length := List.Perm.length_eq ((List.perm_ext_iff_of_nodup (nub_nodup l) h).mpr fun k => mem_nub)
theorem nodup_int {l : List Nat} (h : l.Nodup) : (l.map fun n : Nat => (n : Int)).Nodup := List.Pairwise.map (R := fun a b => a ≠ b) _ (fun a b hab e => hab (by omega)) h
theorem ne_bool {a b : Bool} : neA (.bool a) (.bool b) = .ret (.sh (.bool (a != b))) := by
  cases a <;> cases b <;> rfl
theorem forI0 {α : Type} {v : Nat} {body : Dn.Env → T Out} {e : α → PyData} (I : List α → Dn.Env → Prop) (l : List α) : ∀ (r pre : List α) (ρ : Dn.Env), l = pre ++ r → I pre ρ →
    (∀ pre a suf ρ, l = pre ++ a :: suf → I pre ρ → ∃ ρ', body (ρ.set v (.sh (e a))) = .ret (.nx ρ') ∧ I (pre ++ [a]) ρ') → ∃ ρ', forItems (gN v) body (r.map e) ρ = .ret (.nx ρ') ∧ I l ρ'
  | [], pre, ρ, h, hI, _ => ⟨ρ, rfl, by rw [h, List.append_nil]; exact hI⟩
  | a :: r, pre, ρ, h, hI, hb => by
    obtain ⟨ρ1, h1, hI1⟩ := hb pre a r ρ h hI
    obtain ⟨ρ', h2, hI2⟩ := forI0 I l r (pre ++ [a]) ρ1 (by rw [h, List.append_assoc]; rfl) hI1 hb
    refine ⟨ρ', ?_, hI2⟩
    show ((T.ret (ρ.set v (.sh (e a)))).bind fun ρ1 => _) = _
    rw [bind_ret, h1, bind_ret]
    exact h2
theorem forI {α : Type} {v : Nat} {body : Dn.Env → T Out} {e : α → PyData} (I : List α → Dn.Env → Prop) (l : List α) (ρ : Dn.Env) (hI : I [] ρ)
    (hb : ∀ pre a suf ρ, l = pre ++ a :: suf → I pre ρ → ∃ ρ', body (ρ.set v (.sh (e a))) = .ret (.nx ρ') ∧ I (pre ++ [a]) ρ') : ∃ ρ', forItems (gN v) body (l.map e) ρ = .ret (.nx ρ') ∧ I l ρ' := forI0 I l l [] ρ rfl hI hb
theorem add_NN {p q : List Nat} (h : p.length + q.length ≤ 1000000) : addD (encN p) (encN q) = .ret (.own ((p ++ q).map iD)) := by
  show (if _ then _ else _) = _
  rw [if_pos (by rw [List.length_map, List.length_map]; exact h), List.map_append]
def eqF (n : Nat) (R S : Nat → Nat → Bool) : Bool := (List.range n).all fun i => (List.range n).all fun j => R i j == S i j
theorem eqF_iff {n : Nat} {R S : Nat → Nat → Bool} : eqF n R S = true ↔ ∀ i, i < n → ∀ j, j < n → R i j = S i j := by
  unfold eqF
  rw [List.all_eq_true]
  constructor
  · intro h i hi j hj
    have h1 := List.all_eq_true.mp (h i (List.mem_range.mpr hi)) j (List.mem_range.mpr hj)
    simpa using h1
  · intro h i hi
    rw [List.all_eq_true]
    intro j hj
    have := h i (List.mem_range.mp hi) j (List.mem_range.mp hj)
    simpa using this
theorem map_iD_inj : ∀ {l m : List Nat}, l.map iD = m.map iD → l = m
  | [], [], _ => rfl
  | [], _ :: _, h => by cases h
  | _ :: _, [], h => by cases h
  | a :: l, b :: m, h => by
    rw [List.map_cons, List.map_cons, List.cons.injEq] at h
    rw [iD_inj h.1, map_iD_inj h.2]
theorem encT_inj {l m : List Nat} (h : encT l = encT m) : l = m := map_iD_inj (PyData.tuple.inj h)
theorem encN_inj {l m : List Nat} (h : encN l = encN m) : l = m := map_iD_inj (PyData.list.inj h)
theorem encF_iff {n : Nat} {R S : Nat → Nat → Bool} : encF n R = encF n S ↔ eqF n R S = true := by
  rw [eqF_iff]
  constructor
  · intro h i hi j hj
    have h1 := congrArg (fun l : List PyData => l[i]?) (PyData.tuple.inj h)
    simp only [List.getElem?_map, List.getElem?_range hi, Option.map_some, Option.some.injEq] at h1
    have h2 := encT_inj h1
    have h3 : j ∈ rowOf n R i ↔ j ∈ rowOf n S i := by rw [h2]
    rw [mem_row, mem_row] at h3
    cases a : R i j <;> cases b : S i j <;> simp [a, b, hj] at h3 <;> rfl
  · intro h
    unfold encF
    congr 1
    refine List.map_congr_left fun i hi => ?_
    congr 1
    exact List.filter_congr fun j hj => h i (List.mem_range.mp hi) j (List.mem_range.mp hj)
theorem eq_F {n : Nat} {R S : Nat → Nat → Bool} : eqA (encF n R) (encF n S) = .ret (.sh (.bool (eqF n R S))) := by
  have d : Decidable (encF n R = encF n S) := decidable_of_iff _ encF_iff.symm
  rw [eqA_ok (ok_encF n R) (ok_encF n S) (by decide) (by decide)]
  congr 3
  cases h : eqF n R S with
  | true => exact decide_eq_true (encF_iff.mpr h)
  | false => exact decide_eq_false fun z => by rw [encF_iff.mp z] at h; cases h
theorem ne_F {n : Nat} {R S : Nat → Nat → Bool} : neA (encF n R) (encF n S) = .ret (.sh (.bool (!eqF n R S))) := by
  have d : Decidable (encF n R = encF n S) := decidable_of_iff _ encF_iff.symm
  rw [neA_ok (ok_encF n R) (ok_encF n S) (by decide) (by decide)]
  congr 4
  cases h : eqF n R S with
  | true => exact decide_eq_true (encF_iff.mpr h)
  | false => exact decide_eq_false fun z => by rw [encF_iff.mp z] at h; cases h
theorem eqF_refl (n : Nat) (R : Nat → Nat → Bool) : eqF n R R = true := eqF_iff.mpr fun _ _ _ _ => rfl
def sortL (l : List Nat) : List Nat := l.mergeSort fun a b => decide (a ≤ b)
theorem sortL_perm (l : List Nat) : (sortL l).Perm l := List.mergeSort_perm _ _
theorem sortL_pw (l : List Nat) : (sortL l).Pairwise (· ≤ ·) := (List.pairwise_mergeSort (le := fun a b : Nat => decide (a ≤ b)) (fun a b c h1 h2 => by simp at h1 h2 ⊢; omega) (fun a b => by simp; omega) l).imp fun h => by simpa using h
theorem sorted_uniq {l m : List Nat} (h : l.Perm m) (hl : l.Pairwise (· ≤ ·)) (hm : m.Pairwise (· ≤ ·)) : l = m := List.Perm.eq_of_pairwise (le := fun a b => a ≤ b) (fun a b _ _ x y => Nat.le_antisymm x y) hl hm h
theorem sortL_of_perm {l m : List Nat} (h : l.Perm m) : sortL l = sortL m := sorted_uniq ((sortL_perm l).trans (h.trans (sortL_perm m).symm)) (sortL_pw l) (sortL_pw m)
theorem sortL_sorted {l : List Nat} (h : l.Pairwise (· ≤ ·)) : sortL l = l := sorted_uniq (sortL_perm l) (sortL_pw l) h
theorem dataLt_iD {a b : Nat} : PySem.W.dataLt (iD a) (iD b) = decide (a < b) := by
  have e := congrFun (congrFun (PySem.W.dataLe_int (fun b : Nat => (b : Int))) b) a
  have e2 : (!PySem.W.dataLt (iD a) (iD b)) = decide ((b : Int) ≤ (a : Int)) := e
  have e3 : PySem.W.dataLt (iD a) (iD b) = !decide ((b : Int) ≤ (a : Int)) := by rw [← e2, Bool.not_not]
  rw [e3]
  by_cases h : a < b
  · rw [decide_eq_true h, decide_eq_false (by omega)]
    rfl
  · rw [decide_eq_false h, decide_eq_true (by omega)]
    rfl
theorem sortOf_iD (l : List Nat) : sortOf (l.map iD) = (sortL l).map iD := by
  unfold sortOf sortL
  refine (List.map_mergeSort (fun a _ b _ => ?_)).symm
  show decide (a ≤ b) = !PySem.W.dataLt (iD b) (iD a)
  rw [dataLt_iD]
  by_cases h : a ≤ b
  · rw [decide_eq_true h, decide_eq_false (by omega)]
    rfl
  · rw [decide_eq_false h, decide_eq_true (by omega)]
    rfl
theorem sorted_iD (l : List Nat) : sortedD [.list (l.map iD)] = .ret (.own ((sortL l).map iD)) := by
  have e1 : alikeB (l.map iD) = true := by
    unfold alikeB
    rw [List.all_eq_true]
    intro x hx
    rw [List.all_eq_true]
    intro y hy
    obtain ⟨a, _, rfl⟩ := List.mem_map.mp hx
    obtain ⟨b, _, rfl⟩ := List.mem_map.mp hy
    simp [PySem.W.alike]
  have e2 : sortB (l.map iD) = true := by
    unfold sortB
    rw [Bool.and_eq_true, Bool.or_eq_true]
    refine ⟨.inr ?_, ?_⟩
    · rw [List.all_eq_true]
      intro x hx
      obtain ⟨a, _, rfl⟩ := List.mem_map.mp hx
      rfl
    · rw [List.all_eq_true]
      intro x hx
      obtain ⟨a, _, rfl⟩ := List.mem_map.mp hx
      simp [PyData.depth]
  show sortedL (l.map iD) = _
  unfold sortedL
  rw [e1, e2, if_pos (show (true && true) = true from rfl), sortOf_iD]
theorem nd_inj {p : List Nat} (h : p.Nodup) {i j : Nat} (hi : i < p.length) (hj : j < p.length) (e : p[i] = p[j]) : i = j := by
  have q := List.pairwise_iff_getElem.mp h
  rcases Nat.lt_trichotomy i j with c | c | c
  · exact absurd e (q i j hi hj c)
  · exact c
  · exact absurd e.symm (q j i hj hi c)
theorem index_N {n : Nat} {p : List Nat} {a : Nat} (h : Perm n p) (ha : a < n) : ∃ j, j < n ∧ p.getD j 0 = a ∧ indexL (p.map iD) (iD a) = .ret (.sh (iD j)) := by
  have hm : a ∈ p := h.perm.mem_iff.mpr (List.mem_range.mpr ha)
  obtain ⟨j, hj, e⟩ := List.mem_iff_getElem.mp hm
  have hjn : j < n := by rw [← h.len]; exact hj
  refine ⟨j, hjn, by rw [List.getD_eq_getElem?_getD, List.getElem?_eq_getElem hj, e] <;> rfl, ?_⟩
  have hf : (p.map iD).findIdx? (fun z => PyData.eqv z (iD a)) = some j := by
    rw [List.findIdx?_eq_some_iff_getElem]
    refine ⟨by rw [List.length_map]; exact hj, ?_, fun k hk => ?_⟩
    · rw [List.getElem_map, e]
      exact (eqv_ok (Ok.int (n := 0) _) (Ok.int (n := 0) _)).mpr rfl
    · rw [List.getElem_map]
      intro z
      have z := iD_inj ((eqv_ok (Ok.int (n := 0) _) (Ok.int (n := 0) _)).mp z)
      rw [← e] at z
      have := nd_inj h.nd (by omega) hj z
      omega
  unfold indexL
  have k1 : Dn.okD (.list (p.map iD)) = true := (ok_encN p).okD (by decide)
  rw [k1, (Ok.int (n := 0) (a : Int)).okD (by decide), if_pos (show (true && true) = true from rfl), hf]
  rfl
theorem getD_inj {n : Nat} {p : List Nat} (h : Perm n p) {i j : Nat} (hi : i < n) (hj : j < n) (e : p.getD i 0 = p.getD j 0) : i = j := by
  have hi' : i < p.length := by rw [h.len]; exact hi
  have hj' : j < p.length := by rw [h.len]; exact hj
  rw [List.getD_eq_getElem?_getD, List.getElem?_eq_getElem hi', List.getD_eq_getElem?_getD, List.getElem?_eq_getElem hj'] at e
  exact nd_inj h.nd hi' hj' e
noncomputable def plc (n : Nat) (p : List Nat) (a : Nat) : Nat := if h : ∃ j, j < n ∧ p.getD j 0 = a ∧ indexL (p.map iD) (iD a) = .ret (.sh (iD j)) then h.choose else 0
theorem plc_spec {n : Nat} {p : List Nat} {a : Nat} (h : Perm n p) (ha : a < n) : plc n p a < n ∧ p.getD (plc n p a) 0 = a ∧ indexL (p.map iD) (iD a) = .ret (.sh (iD (plc n p a))) := by
  unfold plc
  rw [dif_pos (index_N h ha)]
  exact (index_N h ha).choose_spec
theorem map_getD {β : Type} {n : Nat} {p : List Nat} (f : Nat → β) (h : p.length = n) : p.map f = (List.range n).map fun i => f (p.getD i 0) := by
  apply List.ext_getElem?
  intro i
  rw [List.getElem?_map, List.getElem?_map]
  by_cases hi : i < n
  · rw [List.getElem?_range hi, List.getElem?_eq_getElem (by rw [h]; exact hi)]
    rw [Option.map_some, Option.map_some, List.getD_eq_getElem?_getD, List.getElem?_eq_getElem (by rw [h]; exact hi)]
    rfl
  · rw [List.getElem?_eq_none (by rw [h]; omega), List.getElem?_eq_none (by rw [List.length_range]; omega)]
    rfl
theorem nodup_map_on {f : Nat → Nat} : ∀ {l : List Nat}, (∀ a ∈ l, ∀ b ∈ l, f a = f b → a = b) → l.Nodup → (l.map f).Nodup
  | [], _, _ => List.nodup_nil
  | a :: l, hf, hn => by
    rw [List.nodup_cons] at hn
    rw [List.map_cons, List.nodup_cons]
    refine ⟨fun hm => ?_, nodup_map_on (fun b hb c hc => hf b (List.mem_cons_of_mem _ hb) c (List.mem_cons_of_mem _ hc)) hn.2⟩
    obtain ⟨b, hb, e⟩ := List.mem_map.mp hm
    exact hn.1 (hf b (List.mem_cons_of_mem _ hb) a List.mem_cons_self e ▸ hb)
theorem row_perm {n i : Nat} {R : Nat → Nat → Bool} {p : List Nat} (h : Perm n p) (hi : i < n) : ((rowOf n R (p.getD i 0)).map (plc n p)).Perm (rowOf n (act p R) i) := by
  have nd1 : (rowOf n R (p.getD i 0)).Nodup := (row_up n R _).imp fun h e => by omega
  have nd2 : (rowOf n (act p R) i).Nodup := (row_up n _ _).imp fun h e => by omega
  refine (List.perm_ext_iff_of_nodup ?_ nd2).mpr fun j => ?_
  · refine nodup_map_on (fun a ha b hb e => ?_) nd1
    have q1 := (plc_spec h (mem_row.mp ha).1).2.1
    have q2 := (plc_spec h (mem_row.mp hb).1).2.1
    rw [← q1, ← q2, e]
  · rw [List.mem_map, mem_row]
    constructor
    · rintro ⟨a, ha, rfl⟩
      rw [mem_row] at ha
      obtain ⟨q1, q2, _⟩ := plc_spec h ha.1
      refine ⟨q1, ?_⟩
      unfold act
      rw [q2]
      exact ha.2
    · rintro ⟨hj, hr⟩
      have hl := h.names.lt hj
      obtain ⟨q1, q2, _⟩ := plc_spec h hl
      refine ⟨p.getD j 0, mem_row.mpr ⟨hl, hr⟩, ?_⟩
      exact getD_inj h q1 hj q2
theorem ne_N {p q : List Nat} : neA (.list (p.map iD)) (.list (q.map iD)) = .ret (.sh (.bool (!decide (p = q)))) := by
  have key : encN p = encN q ↔ p = q := ⟨encN_inj, fun h => by rw [h]⟩
  have d : Decidable (encN p = encN q) := decidable_of_iff _ key.symm
  show neA (encN p) (encN q) = _
  rw [neA_ok (ok_encN p) (ok_encN q) (by decide) (by decide)]
  congr 4
  exact decide_eq_decide.mpr key
theorem alikeAll_map {α : Type} {f : α → PyData} (h : ∀ a b, PySem.W.alike (f a) (f b) = true) : ∀ l m : List α, PySem.W.alikeAll (l.map f) (m.map f) = true
  | [], m => by simp [PySem.W.alikeAll]
  | a :: l, [] => by simp [PySem.W.alikeAll]
  | a :: l, b :: m => by
    rw [List.map_cons, List.map_cons, PySem.W.alikeAll, h a b, alikeAll_map h l m]
    rfl
theorem alike_iD (a b : Nat) : PySem.W.alike (iD a) (iD b) = true := by simp [PySem.W.alike]
theorem alike_T (l m : List Nat) : PySem.W.alike (encT l) (encT m) = true := by
  unfold encT
  rw [PySem.W.alike]
  exact alikeAll_map alike_iD l m
theorem alike_F (n : Nat) (R S : Nat → Nat → Bool) : PySem.W.alike (encF n R) (encF n S) = true := by
  have e : ∀ R : Nat → Nat → Bool, encF n R = .tuple (((List.range n).map fun i => rowOf n R i).map encT) := fun R => by
    unfold encF
    rw [List.map_map]
    rfl
  rw [e R, e S, PySem.W.alike]
  exact alikeAll_map alike_T _ _
theorem lt_F {n : Nat} {R S : Nat → Nat → Bool} : ltD (encF n R) (encF n S) = .ret (.sh (.bool (PySem.W.dataLt (encF n R) (encF n S)))) := by
  have hd : (encF n R).depth ≤ 64 := Nat.le_trans (ok_encF n R).2.2 (by decide)
  show (if _ then _ else _) = _
  rw [alike_F, show isNone (encF n R) = false from rfl, decide_eq_true hd, if_pos (show (true && (!false && true)) = true from rfl)]
/-! ### steps that hold -/
section
variable {f g : Dn.Env → T Out} {e : Dn.Env → T AV} {ρ : Dn.Env} {p : Out → Prop}
theorem hseq (h : Hold (f ρ) fun o => ∃ ρ', o = .nx ρ' ∧ Hold (g ρ') p) : Hold (seqD f g ρ) p := by
  unfold seqD
  exact Hold.bind' (h.mono fun o ⟨ρ', e, h⟩ => by subst e; exact h)
theorem hset {i : Nat} (h : Hold (e ρ) fun av => av ≠ .no ∧ p (.nx (ρ.set i av))) : Hold (setD i e ρ) p := by
  unfold setD
  refine Hold.bind' (h.mono fun av ⟨h1, h2⟩ => ?_)
  cases av with
  | no => exact absurd rfl h1
  | _ => exact h2
theorem hfz {q : AV → Prop} (h : Hold (e ρ) fun av => q (frz av)) : Hold (fzA e ρ) q := Hold.bind' (h.mono fun _ h => h)
theorem hret (h : Hold (e ρ) fun av => p (.rt av)) : Hold (sRet e ρ) p := Hold.bind' (h.mono fun _ h => h)
theorem hrun {n N : Nat} {as : List AV} {q : AV → Prop} (h : Hold (f (as ++ List.replicate (N - n) .no)) fun o => ∃ av, o = .rt av ∧ q av) : Hold (runD n N f as) q := by
  unfold runD
  exact Hold.bind' (h.mono fun o ⟨av, e, h⟩ => by subst e; exact h)
end
def RowOk (n : Nat) (l : List Nat) : Prop := (∀ a ∈ l, a < n) ∧ l.length ≤ 1000
theorem all2_iD {l : List Nat} {ys : List PyData} (h : All2 (fun a y => y = iD a) l ys) : ys = l.map iD := by
  induction h with
  | nil => rfl
  | cons h1 _ ih => rw [h1, ih]; rfl
theorem int_iD (a b : Nat) : addD (iD a) (iD b) = .ret (.sh (iD (a + b))) := by
  show T.ret (AV.sh (.int ((a : Int) + (b : Int)))) = _
  rw [← Int.natCast_add]
theorem mod_iD {a n : Nat} (h : 0 < n) : modD (iD a) (iD n) = .ret (.sh (iD (a % n))) := by
  rw [mod_int (by omega), Int.fmod_eq_emod_of_nonneg _ (by omega)]
  show T.ret (AV.sh (.int ((a : Int) % (n : Int)))) = _
  rw [← Int.natCast_emod]
theorem map_getD' {β : Type} {n : Nat} {L : List (List Nat)} (f : List Nat → β) (h : L.length = n) : L.map f = (List.range n).map fun i => f (L.getD i []) := by
  apply List.ext_getElem?
  intro i
  rw [List.getElem?_map, List.getElem?_map]
  by_cases hi : i < n
  · rw [List.getElem?_range hi, List.getElem?_eq_getElem (by rw [h]; exact hi)]
    rw [Option.map_some, Option.map_some, List.getD_eq_getElem?_getD, List.getElem?_eq_getElem (by rw [h]; exact hi)]
    rfl
  · rw [List.getElem?_eq_none (by rw [h]; omega), List.getElem?_eq_none (by rw [List.length_range]; omega)]
    rfl
theorem hold_true {α : Type} {m : T α} {p : α → Prop} (h : Hold m p) : Hold m fun _ => True := h.mono fun _ _ => trivial
theorem eq_lit {a : Nat} {i : Int} (b : Nat) (hi : i = (b : Int)) : eqA (iD a) (.int i) = .ret (.sh (.bool (decide (a = b)))) := by
  subst hi
  exact eq_len
theorem getD_row {n : Nat} {L : List (List Nat)} (hl : L.length = n) (h : ∀ l ∈ L, RowOk n l) {i : Nat} (hi : i < n) : L[i]? = some (L.getD i []) ∧ RowOk n (L.getD i []) := by
  have hi' : i < L.length := by rw [hl]; exact hi
  rw [List.getD_eq_getElem?_getD, List.getElem?_eq_getElem hi']
  exact ⟨rfl, h _ (List.getElem_mem hi')⟩
theorem ix_rows {n : Nat} {L : List (List Nat)} (hl : L.length = n) {i : Nat} (hi : i < n) : ixD (.list (L.map encN)) (iD i) = .ret (.sh (encN (L.getD i []))) := ix_list (by
  rw [List.getElem?_map, List.getD_eq_getElem?_getD, List.getElem?_eq_getElem (by rw [hl]; exact hi)]
  rfl)
theorem pop_ok {i : Nat} {f : Dn.Env → T PyData} {ρ : Dn.Env} {ds : List PyData} {k : Nat} {y : PyData} (h1 : ρ[i]? = some (.own ds)) (h2 : f ρ = .ret (iD k)) (h3 : ds[k]? = some y) (h4 : ds.length ≤ 1000000) : popD i f ρ = .ret (y, ρ.set i (.own (ds.eraseIdx k))) := by
  have hk : k < ds.length := lt_of_get h3
  have e : seqIndex? (k : Int) ds.length = some k := by
    unfold seqIndex?
    simp only []
    rw [if_neg (show ¬ (k : Int) < 0 by omega), if_pos (by simp; omega), Int.toNat_natCast]
  unfold popD ownAt
  simp only [h1, h2, bind_ret, e, h3]
  rw [if_pos (by omega)]
theorem erase_perm {l : List Nat} {d : Nat} (h : d < l.length) : (l.eraseIdx d ++ [l[d]]).Perm l := by
  have e : l = l.take d ++ l[d] :: l.drop (d + 1) := by simp
  have e2 : l.eraseIdx d = l.take d ++ l.drop (d + 1) := List.eraseIdx_eq_take_drop_succ _ _
  rw [e2, List.append_assoc]
  conv => rhs; rw [e]
  exact List.Perm.append_left _ (List.perm_append_comm (l₁ := l.drop (d + 1)) (l₂ := [l[d]]))
theorem eqA_d {n m : Nat} {x y : PyData} (hx : Ok n x) (hy : Ok m y) (hn : n ≤ 64 := by decide) (hm : m ≤ 64 := by decide) : eqA x y = .ret (.sh (.bool (decide (x = y)))) := eqA_ok hx hy hn hm
theorem neA_d {n m : Nat} {x y : PyData} (hx : Ok n x) (hy : Ok m y) (hn : n ≤ 64 := by decide) (hm : m ≤ 64 := by decide) : neA x y = .ret (.sh (.bool (!decide (x = y)))) := neA_ok hx hy hn hm
theorem eq_S {a b : Str} : eqA (.str a) (.str b) = .ret (.sh (.bool (decide (a = b)))) := by
  show T.ret _ = _
  congr 4
theorem ne_S {a b : Str} : neA (.str a) (.str b) = .ret (.sh (.bool (!decide (a = b)))) := by
  show T.ret _ = _
  congr 5
theorem ok_two {x y : PyData} (hx : Ok 2 x) (hy : Ok 2 y) : Ok 3 (.tuple [x, y]) := Ok.tuple fun z hz => by
  rcases List.mem_cons.mp hz with rfl | hz
  · exact hx
  · rw [List.mem_singleton.mp hz]
    exact hy
theorem tup2_4000 (x y : PyData) : mkTup [.sh x, .sh y] = .ret (.sh (.tuple [x, y])) := rfl
theorem ix_0 {x y : PyData} : ixD (.tuple [x, y]) (.int 0) = .ret (.sh x) := ix_tup (i := 0) rfl
theorem ix_1 {x y : PyData} : ixD (.tuple [x, y]) (.int 1) = .ret (.sh y) := ix_tup (i := 1) rfl
theorem rp_T {l : List Nat} {n : Nat} (h : ∀ a ∈ l, a < 100) (hl : l.length ≤ n) : Rp (5 + n * 4) 1 (encT l) := Rp.tuple (k := 2) (m := 0) (fun x hx => by
  obtain ⟨a, ha, rfl⟩ := List.mem_map.mp hx
  exact Rp.digit (h a ha)) (by rw [List.length_map]; exact hl)
theorem rp_N {l : List Nat} {n : Nat} (h : ∀ a ∈ l, a < 100) (hl : l.length ≤ n) : Rp (5 + n * 4) 1 (encN l) := Rp.list (k := 2) (m := 0) (fun x hx => by
  obtain ⟨a, ha, rfl⟩ := List.mem_map.mp hx
  exact Rp.digit (h a ha)) (by rw [List.length_map]; exact hl)
theorem rp_F {n : Nat} (R : Nat → Nat → Bool) (hn : n ≤ 6) : Rp 300 2 (encF n R) := (Rp.tuple (k := 5 + 6 * 4) (m := 1) (n := 6) (fun x hx => by
  obtain ⟨i, hi, rfl⟩ := List.mem_map.mp hx
  refine rp_T (fun a ha => by have := (mem_row.mp ha).1; omega) ?_
  exact Nat.le_trans (List.length_filter_le _ _) (by rw [List.length_range]; exact hn)) (by rw [List.length_map, List.length_range]; exact hn)).mono (by decide) (by decide)
theorem repr2 {k m : Nat} {x y : PyData} (hx : Rp k m x) (hy : Rp k m y) (hk : k ≤ 1000000) (hm : m ≤ 60) : reprD [.list [x, y]] = .ret (.sh (.str (PyData.shown (.list [x, y])))) :=
  repr_list (Rp.list (n := 2) (Rp.two hx hy) (by simp)) (by omega) (by omega)
/-- a loop, its turns counted -/
theorem forHI {g : PyData → Dn.Env → T Dn.Env} {body : Dn.Env → T Out} (K : Nat) (I : Nat → Dn.Env → Prop) : ∀ (ds : List PyData) (k : Nat) (ρ : Dn.Env), k + ds.length ≤ K → I k ρ → (∀ k ρ, k < K → I k ρ → ∀ d ∈ ds, Hold (g d ρ) fun ρ1 => Hold (body ρ1) fun o => ∃ ρ', o = .nx ρ' ∧ I (k + 1) ρ') →
    Hold (forItems g body ds ρ) fun o => ∃ ρ', o = .nx ρ' ∧ I (k + ds.length) ρ'
  | [], k, ρ, _, hI, _ => ⟨ρ, rfl, hI⟩
  | d :: ds, k, ρ, hK, hI, hb => by
    rw [List.length_cons] at hK
    refine Hold.bind' ((hb k ρ (by omega) hI d List.mem_cons_self).mono fun ρ1 h => Hold.bind' (h.mono fun o ⟨ρ', ho, hI'⟩ => ?_))
    subst ho
    have ih := forHI K I ds (k + 1) ρ' (by omega) hI' fun k ρ hk h d hd => hb k ρ hk h d (List.mem_cons_of_mem _ hd)
    rw [show k + 1 + ds.length = k + (d :: ds).length by rw [List.length_cons]; omega] at ih
    exact ih
theorem fold_N {l : List Nat} : PyData.list (l.map iD) = encN l := rfl
theorem hif_ok {e : Dn.Env → T AV} {f : Dn.Env → T Out} {ρ : Dn.Env} {p : Out → Prop} (h : Hold (e ρ) fun av => av = .sh (.bool true)) (hp : p (.nx ρ)) : Hold (ifD (tNot (tB e)) f sNil ρ) p := by
  unfold ifD
  refine Hold.bind' (Hold.bind' (Hold.bind' (h.mono fun av e => ?_)))
  subst e
  exact hp
theorem hif_ok2 {e : Dn.Env → T AV} {c : Dn.Env → T Bool} {f : Dn.Env → T Out} {ρ : Dn.Env} {p : Out → Prop} (h : Hold (e ρ) fun av => av = .sh (.bool true)) (hc : c ρ = .ret false) (hp : p (.nx ρ)) : Hold (ifD (tOr (tNot (tB e)) c) f sNil ρ) p := by
  unfold ifD
  refine Hold.bind' (Hold.bind' (Hold.bind' (Hold.bind' (h.mono fun av e => ?_))))
  subst e
  show Hold (c ρ) _
  rw [hc]
  exact hp
theorem mod_I {i j : Int} (h : j ≠ 0) : modD (.int i) (.int j) = .ret (.sh (.int (i.fmod j))) := if_pos h
theorem lt_int {i j : Int} : ltD (.int i) (.int j) = .ret (.sh (.bool (decide (i < j)))) := rfl
theorem len_ints {ns : List Int} : lenD [.list (ns.map PyData.int)] = .ret (.sh (.int (ns.length : Nat))) := by
  show T.ret (AV.sh (PyData.int ((ns.map PyData.int).length : Nat))) = _
  rw [List.length_map]
theorem abs_int {i : Int} : absD [.int i] = .ret (.sh (.int (if i < 0 then -i else i))) := rfl
theorem abs_big {i : Int} (h : Builtin.Int.intBits i ≤ 1048576) : 0 ≤ (if i < 0 then -i else i) ∧ (if i < 0 then -i else i).toNat < BIG := by
  have h1 := intBits_le_iff.mp h
  have h2 : (2 : Nat) ^ 1048576 ≤ BIG := by
    rw [BIG_eq]
    exact Nat.pow_le_pow_right (by omega) (by omega)
  generalize (2 : Nat) ^ 1048576 = y at h1 h2
  by_cases hi : i < 0
  · rw [if_pos hi]
    exact ⟨by omega, by omega⟩
  · rw [if_neg hi]
    exact ⟨by omega, by omega⟩
theorem small_big {x : Nat} (h : x < 1000000) : x < BIG := by
  have h2 : (2 : Nat) ^ 20 ≤ BIG := by
    rw [BIG_eq]
    exact Nat.pow_le_pow_right (by omega) (by omega)
  have h3 : (2 : Nat) ^ 20 = 1048576 := by decide
  omega
theorem all2_true {α : Type} {l : List α} {ys : List PyData} (h : All2 (fun _ y => y = PyData.bool true) l ys) : ys = l.map fun _ => PyData.bool true := by
  induction h with
  | nil => rfl
  | cons h1 _ ih => rw [h1, ih]; rfl
theorem rg_n {n : Nat} (hn : n ≤ 1000) : rgD .own (iD n) = .ret (.own ((List.range n).map iD)) := by
  show (if _ then _ else _) = _
  rw [if_pos (by omega), Int.toNat_natCast, upFrom0]
theorem rg_t {n : Nat} (hn : n ≤ 1000) : rgD (fun ds => .sh (.tuple ds)) (iD n) = .ret (.sh (encT (List.range n))) := by
  show (if _ then _ else _) = _
  rw [if_pos (by omega), Int.toNat_natCast, upFrom0]
  rfl
end Mf
end
section
set_option Elab.async false
set_option linter.all false
set_option autoImplicit false
set_option maxRecDepth 100000
/-! E2: more reckoning, of no one law. -/
namespace Mf
open PySem Dn
open Classical

theorem bools_map {α : Type} (p : α → Bool) : ∀ l : List α, boolsOf (l.map fun a => PyData.bool (p a)) = some (l.map p)
  | [] => rfl
  | a :: l => by
    show (match boolsOf (l.map fun a => PyData.bool (p a)) with
      | some bs => some (p a :: bs)
      | none => none) = _
    rw [bools_map p l]
    rfl
theorem all_map {α : Type} (p : α → Bool) (l : List α) : allD [.list (l.map fun a => PyData.bool (p a))] = .ret (.sh (.bool (l.all p))) := by
  show optT (boolsOf _) _ = _
  rw [bools_map]
  show T.ret (AV.sh (.bool ((l.map p).all id))) = _
  rw [List.all_map]
  rfl
theorem any_map {α : Type} (p : α → Bool) (l : List α) : anyD [.list (l.map fun a => PyData.bool (p a))] = .ret (.sh (.bool (l.any p))) := by
  show optT (boolsOf _) _ = _
  rw [bools_map]
  show T.ret (AV.sh (.bool ((l.map p).any id))) = _
  rw [List.any_map]
  rfl
theorem ints_map {α : Type} (p : α → Nat) : ∀ l : List α, intsOf (l.map fun a => iD (p a)) = some (l.map fun a => (p a : Int))
  | [] => rfl
  | a :: l => by
    show (match intsOf (l.map fun a => iD (p a)) with
      | some bs => some ((p a : Int) :: bs)
      | none => none) = _
    rw [ints_map p l]
    rfl
theorem len_l {ds : List PyData} : lenD [.list ds] = .ret (.sh (iD ds.length)) := rfl
theorem len_t {ds : List PyData} : lenD [.tuple ds] = .ret (.sh (iD ds.length)) := rfl
theorem len_T {l : List Nat} : lenD [encT l] = .ret (.sh (iD l.length)) := by
  show T.ret (AV.sh (.int _)) = _
  rw [List.length_map]
theorem len_N {l : List Nat} : lenD [encN l] = .ret (.sh (iD l.length)) := by
  show T.ret (AV.sh (.int _)) = _
  rw [List.length_map]
theorem tup_l {ds : List PyData} : tupleD [.list ds] = .ret (.sh (.tuple ds)) := rfl
theorem tup_t {ds : List PyData} : tupleD [.tuple ds] = .ret (.sh (.tuple ds)) := rfl
theorem list_l {ds : List PyData} : listD [.list ds] = .ret (.own ds) := rfl
theorem list_t {ds : List PyData} : listD [.tuple ds] = .ret (.own ds) := rfl
theorem tup_N {l : List Nat} : tupleD [.list (l.map iD)] = .ret (.sh (encT l)) := rfl
theorem list_T {l : List Nat} : listD [encT l] = .ret (.own (l.map iD)) := rfl
theorem items_T {l : List Nat} : itemsD (encT l) = .ret (l.map iD) := rfl
theorem items_N {l : List Nat} : itemsD (encN l) = .ret (l.map iD) := rfl
theorem items_F {n : Nat} {R : Nat → Nat → Bool} : itemsD (encF n R) = .ret ((List.range n).map fun i => encT (rowOf n R i)) := rfl
/-- enumerate(a relation) -/
theorem enum_F {n : Nat} {R : Nat → Nat → Bool} : enumX [encF n R] = .ret ((List.range n).map fun i => PyData.tuple [iD i, encT (rowOf n R i)]) := by
  show T.ret (enumL ((List.range n).map fun i => encT (rowOf n R i))) = _
  congr 1
  unfold enumL
  apply List.ext_getElem?
  intro i
  rw [List.getElem?_map, List.getElem?_zipIdx, List.getElem?_map, List.getElem?_map]
  by_cases hi : i < n
  · rw [List.getElem?_range hi]
    show some (PyData.tuple [.int ((0 + i : Nat) : Int), _]) = _
    rw [Nat.zero_add]
    rfl
  · rw [List.getElem?_eq_none (by rw [List.length_range]; omega)]
    rfl
theorem eq_TT {l m : List Nat} : eqA (encT l) (encT m) = .ret (.sh (.bool (decide (l = m)))) := by
  rw [eqA_d (ok_encT l) (ok_encT m)]
  congr 3
  exact decide_eq_decide.mpr ⟨encT_inj, fun h => by rw [h]⟩
theorem ne_TT {l m : List Nat} : neA (encT l) (encT m) = .ret (.sh (.bool (!decide (l = m)))) := by
  rw [neA_d (ok_encT l) (ok_encT m)]
  congr 4
  exact decide_eq_decide.mpr ⟨encT_inj, fun h => by rw [h]⟩
theorem encT_nil : PyData.tuple [] = encT [] := rfl
theorem add_LL {p q : List PyData} (h : p.length + q.length ≤ 1000000) : addD (.list p) (.list q) = .ret (.own (p ++ q)) := by
  show (if _ then _ else _) = _
  rw [if_pos h]
/-! ### rising lists -/
def Lot (n : Nat) (l : List Nat) : Prop := l.Pairwise (· < ·) ∧ ∀ a ∈ l, a < n
theorem lot_filter {n : Nat} (p : Nat → Bool) : Lot n ((List.range n).filter p) := ⟨List.Pairwise.filter _ List.pairwise_lt_range, fun a ha => List.mem_range.mp (List.mem_filter.mp ha).1⟩
theorem Lot.uniq {n : Nat} {l m : List Nat} (hl : Lot n l) (hm : Lot n m) (h : ∀ a, a ∈ l ↔ a ∈ m) : l = m := by
  have hp : l.Perm m := (List.perm_ext_iff_of_nodup (hl.1.imp fun h => Nat.ne_of_lt h) (hm.1.imp fun h => Nat.ne_of_lt h)).mpr h
  exact sorted_uniq hp (hl.1.imp fun h => Nat.le_of_lt h) (hm.1.imp fun h => Nat.le_of_lt h)
theorem Lot.len {n : Nat} {l : List Nat} (h : Lot n l) : l.length ≤ n := by
  have := nubD_len.nodup_len (h.1.imp fun h => Nat.ne_of_lt h) fun a ha => List.mem_range.mpr (h.2 a ha)
  rwa [List.length_range] at this
theorem lot_nil (n : Nat) : Lot n [] := ⟨List.Pairwise.nil, fun a h => absurd h List.not_mem_nil⟩
theorem lot_eq_filter {n : Nat} {l : List Nat} (h : Lot n l) : l = (List.range n).filter fun a => decide (a ∈ l) := h.uniq (lot_filter _) fun a => by
  rw [List.mem_filter, List.mem_range, decide_eq_true_iff]
  exact ⟨fun z => ⟨h.2 a z, z⟩, fun z => z.2⟩
/-! ### all lots -/
def subs : Nat → List (List Nat)
  | 0 => [[]]
  | n + 1 => subs n ++ (subs n).map fun l => l ++ [n]
theorem mem_subs : ∀ {n : Nat} {l : List Nat}, l ∈ subs n ↔ Lot n l
  | 0, l => by
    rw [subs, List.mem_singleton]
    constructor
    · rintro rfl
      exact lot_nil 0
    · intro h
      cases l with
      | nil => rfl
      | cons a l => exact absurd (h.2 a List.mem_cons_self) (by omega)
  | n + 1, l => by
    rw [subs, List.mem_append, List.mem_map]
    constructor
    · rintro (h | ⟨m, h, rfl⟩)
      · have h := mem_subs.mp h
        exact ⟨h.1, fun a ha => Nat.lt_succ_of_lt (h.2 a ha)⟩
      · have h := mem_subs.mp h
        refine ⟨List.pairwise_append.mpr ⟨h.1, List.pairwise_singleton _ _, fun a ha b hb => ?_⟩, fun a ha => ?_⟩
        · rw [List.mem_singleton.mp hb]
          exact h.2 a ha
        · rcases List.mem_append.mp ha with ha | ha
          · exact Nat.lt_succ_of_lt (h.2 a ha)
          · rw [List.mem_singleton.mp ha]
            exact Nat.lt_succ_self n
    · rintro ⟨h1, h2⟩
      by_cases hn : n ∈ l
      · right
        have hne : l ≠ [] := by
          rintro rfl
          cases hn
        have el : l = l.dropLast ++ [l.getLast hne] := (List.dropLast_concat_getLast hne).symm
        rw [el] at h1 hn
        obtain ⟨p1, _, p3⟩ := List.pairwise_append.mp h1
        have last : l.getLast hne = n := by
          have hle := h2 _ (List.getLast_mem hne)
          rcases List.mem_append.mp hn with z | z
          · have := p3 n z (l.getLast hne) (by simp)
            omega
          · exact (List.mem_singleton.mp z).symm
        refine ⟨l.dropLast, mem_subs.mpr ⟨p1, fun a ha => ?_⟩, by rw [← last]; exact el.symm⟩
        have := p3 a ha (l.getLast hne) (by simp)
        omega
      · left
        refine mem_subs.mpr ⟨h1, fun a ha => ?_⟩
        have := h2 a ha
        have : a ≠ n := fun e => hn (e ▸ ha)
        omega
theorem len_subs : ∀ n, (subs n).length = 2 ^ n
  | 0 => rfl
  | n + 1 => by rw [subs, List.length_append, List.length_map, len_subs n, Nat.pow_succ]; omega
theorem nodup_subs : ∀ n, (subs n).Nodup
  | 0 => by simp [subs]
  | n + 1 => by
    rw [subs]
    refine List.nodup_append.mpr ⟨nodup_subs n, ?_, fun a ha b hb e => ?_⟩
    · refine List.Pairwise.map (R := fun a b => a ≠ b) _ (fun a b hab e => hab ?_) (nodup_subs n)
      exact (List.append_inj' e rfl).1
    · obtain ⟨m, hm, rfl⟩ := List.mem_map.mp hb
      have := (mem_subs.mp ha).2 n (by rw [e]; simp)
      omega
theorem head_subs : ∀ n, ∃ l, subs n = [] :: l
  | 0 => ⟨[], rfl⟩
  | n + 1 => by
    obtain ⟨l, e⟩ := head_subs n
    exact ⟨_, by rw [subs, e]; rfl⟩
end Mf
end
section
set_option Elab.async false
set_option linter.all false
set_option autoImplicit false
set_option maxRecDepth 100000
/-! F1: judges of relations and lots (of every law that has these defs). -/
namespace Mf
open PySem Dn Wk
open Classical

theorem e_is_integer (a : Int) : d_is_integer [.sh (.int a)] = yes := by
  rw [q_is_integer]
  rfl
theorem e_is_within {a lo hi : Int} (h1 : lo ≤ a) (h2 : a ≤ hi) : d_is_within [.sh (.int a), .sh (.int lo), .sh (.int hi)] = yes := by
  simp only [q_is_within, b_is_within, runD, seqD, ifD, setD, asgD, parD, par3D, setV, extD, appD, ownAt, vD, vA, oA, kA, fzA, bin, tB, tNot, tAnd, tOr, nA, andA, orA, ifA, chA, a0, aC, b0, bC, cal, calK, isA, is2A, slA, o0, oI, ixL, itS, itZ, itE, itE2, reprL, mulOwn, gN, g0, lamA, xO, sNil, sRet, sEx, sErr, sBk, sCt, sShare, bind_ret, bind_err, slA0, slAp, slAf, slAs, slD0, slDo, slDs, calling, toB, toD, toS, toI, frz, dataA, allS, mkTup, mkLst, itemsL, itemsT, share, share1, tupG, consG, List.append_nil, List.replicate, List.getElem?_cons_zero, List.getElem?_cons_succ, List.cons_append, List.nil_append, Nat.sub_self, List.length_cons, List.length_nil, List.set_cons_zero, List.set_cons_succ, List.foldl_cons, List.foldl_nil, if_true, if_false, ite_true, ite_false, reduceCtorEq, Nat.reduceAdd, Nat.reduceSub, Nat.reduceLeDiff, Bool.not_true, Bool.not_false, Bool.false_eq_true, pick, List.filterMap_cons, List.filterMap_nil, e_is_integer, le_II, decide_eq_true h1, decide_eq_true h2]
theorem zip_T {l : List Nat} : zipL (l.map iD) ((l.map iD).drop 1) = (l.zip (l.drop 1)).map fun p => PyData.tuple [iD p.1, iD p.2] := by
  unfold zipL
  rw [← List.map_drop, List.zipWith_map_left, List.zipWith_map_right, List.zip, List.map_zipWith]
theorem zip_lt {l : List Nat} (h : l.Pairwise (· < ·)) : ∀ p ∈ l.zip (l.drop 1), p.1 < p.2 := fun p hp => by
  obtain ⟨i, hi⟩ := List.mem_iff_getElem?.mp hp
  rw [List.getElem?_zip_eq_some] at hi
  obtain ⟨h1, h2⟩ := hi
  rw [List.getElem?_drop] at h2
  obtain ⟨a1, b1⟩ := List.getElem?_eq_some_iff.mp h1
  obtain ⟨a2, b2⟩ := List.getElem?_eq_some_iff.mp h2
  rw [← b1, ← b2]
  exact List.pairwise_iff_getElem.mp h i (1 + i) a1 a2 (by omega)
theorem e_are_rising {l : List Nat} (h : l.Pairwise (· < ·)) : d_are_rising [.sh (encT l)] = yes := by
  have l1 : c_are_rising_0 [.sh (encT l), .no, .no] = .ret (.own ((l.zip (l.drop 1)).map fun _ => PyData.bool true)) := by
    have it : itZ (aC (vA 0) (aC (slA (vD 0) (oI (oA (kA (.int 1)))) o0) a0)) [.sh (encT l), .no, .no] = .ret ((l.zip (l.drop 1)).map fun p => PyData.tuple [iD p.1, iD p.2]) := by
      show zipD [encT l, .tuple (Dn.cutD (l.map iD) (some 1) none)] = _
      rw [cut1]
      show T.ret (zipL _ _) = _
      rw [zip_T]
    exact lcD_eq it rfl (lcG (b := fun _ => true) (fun p => [.sh (encT l), .sh (iD p.1), .sh (iD p.2)]) (fun _ => PyData.bool true) _ (fun p _ => rfl) (fun _ _ => rfl) fun p hp _ => by
      show T.ret (PyData.bool (decide ((p.1 : Int) < (p.2 : Int)))) = _
      rw [decide_eq_true (by have := zip_lt h p hp; omega)]) |>.trans (by rw [List.filter_eq_self.mpr fun _ _ => rfl])
  simp only [q_are_rising, b_are_rising, runD, seqD, ifD, setD, asgD, parD, par3D, setV, extD, appD, ownAt, vD, vA, oA, kA, fzA, bin, tB, tNot, tAnd, tOr, nA, andA, orA, ifA, chA, a0, aC, b0, bC, cal, calK, isA, is2A, slA, o0, oI, ixL, itS, itZ, itE, itE2, reprL, mulOwn, gN, g0, lamA, xO, sNil, sRet, sEx, sErr, sBk, sCt, sShare, bind_ret, bind_err, slA0, slAp, slAf, slAs, slD0, slDo, slDs, calling, toB, toD, toS, toI, frz, dataA, allS, mkTup, mkLst, itemsL, itemsT, share, share1, tupG, consG, List.append_nil, List.replicate, List.getElem?_cons_zero, List.getElem?_cons_succ, List.cons_append, List.nil_append, Nat.sub_self, List.length_cons, List.length_nil, List.set_cons_zero, List.set_cons_succ, List.foldl_cons, List.foldl_nil, if_true, if_false, ite_true, ite_false, reduceCtorEq, Nat.reduceAdd, Nat.reduceSub, Nat.reduceLeDiff, Bool.not_true, Bool.not_false, Bool.false_eq_true, pick, List.filterMap_cons, List.filterMap_nil, l1, all_true]
theorem e_is_lot_of {l : List Nat} {n : Nat} (h : Lot n l) : d_is_lot_of [.sh (encT l), .sh (iD n)] = yes := by
  have l1 : c_is_lot_of_0 [.sh (encT l), .sh (iD n), .no] = .ret (.own (l.map fun _ => PyData.bool true)) := lcD_eq (ds := l.map iD) rfl rfl (lcN1 (e := iD) (fun _ => PyData.bool true) l fun a ha => by
    have h3 := h.2 a ha
    simp only [runD, seqD, ifD, setD, asgD, parD, par3D, setV, extD, appD, ownAt, vD, vA, oA, kA, fzA, bin, tB, tNot, tAnd, tOr, nA, andA, orA, ifA, chA, a0, aC, b0, bC, cal, calK, isA, is2A, slA, o0, oI, ixL, itS, itZ, itE, itE2, reprL, mulOwn, gN, g0, lamA, xO, sNil, sRet, sEx, sErr, sBk, sCt, sShare, bind_ret, bind_err, slA0, slAp, slAf, slAs, slD0, slDo, slDs, calling, toB, toD, toS, toI, frz, dataA, allS, mkTup, mkLst, itemsL, itemsT, share, share1, tupG, consG, List.append_nil, List.replicate, List.getElem?_cons_zero, List.getElem?_cons_succ, List.cons_append, List.nil_append, Nat.sub_self, List.length_cons, List.length_nil, List.set_cons_zero, List.set_cons_succ, List.foldl_cons, List.foldl_nil, if_true, if_false, ite_true, ite_false, reduceCtorEq, Nat.reduceAdd, Nat.reduceSub, Nat.reduceLeDiff, Bool.not_true, Bool.not_false, Bool.false_eq_true, pick, List.filterMap_cons, List.filterMap_nil, sub1, e_is_within (show (0 : Int) ≤ (a : Int) by omega) (show (a : Int) ≤ (n : Int) - 1 by omega)])
  have t1 : isTy "tuple" (encT l) = true := rfl
  simp only [q_is_lot_of, b_is_lot_of, runD, seqD, ifD, setD, asgD, parD, par3D, setV, extD, appD, ownAt, vD, vA, oA, kA, fzA, bin, tB, tNot, tAnd, tOr, nA, andA, orA, ifA, chA, a0, aC, b0, bC, cal, calK, isA, is2A, slA, o0, oI, ixL, itS, itZ, itE, itE2, reprL, mulOwn, gN, g0, lamA, xO, sNil, sRet, sEx, sErr, sBk, sCt, sShare, bind_ret, bind_err, slA0, slAp, slAf, slAs, slD0, slDo, slDs, calling, toB, toD, toS, toI, frz, dataA, allS, mkTup, mkLst, itemsL, itemsT, share, share1, tupG, consG, List.append_nil, List.replicate, List.getElem?_cons_zero, List.getElem?_cons_succ, List.cons_append, List.nil_append, Nat.sub_self, List.length_cons, List.length_nil, List.set_cons_zero, List.set_cons_succ, List.foldl_cons, List.foldl_nil, if_true, if_false, ite_true, ite_false, reduceCtorEq, Nat.reduceAdd, Nat.reduceSub, Nat.reduceLeDiff, Bool.not_true, Bool.not_false, Bool.false_eq_true, pick, List.filterMap_cons, List.filterMap_nil, l1, all_true, t1, e_are_rising h.1]
theorem lot_row (n : Nat) (R : Nat → Nat → Bool) (i : Nat) : Lot n (rowOf n R i) := lot_filter _
theorem e_is_relation_of {n : Nat} {R : Nat → Nat → Bool} : d_is_relation_of [.sh (iD n), .sh (encF n R)] = yes := by
  have l1 : c_is_relation_of_0 [.sh (iD n), .sh (encF n R), .no] = .ret (.own ((List.range n).map fun _ => PyData.bool true)) := lcD_eq (ds := (List.range n).map fun i => encT (rowOf n R i)) rfl rfl (lcN1 (e := fun i => encT (rowOf n R i)) (fun _ => PyData.bool true) _ fun i _ => by
    simp only [runD, seqD, ifD, setD, asgD, parD, par3D, setV, extD, appD, ownAt, vD, vA, oA, kA, fzA, bin, tB, tNot, tAnd, tOr, nA, andA, orA, ifA, chA, a0, aC, b0, bC, cal, calK, isA, is2A, slA, o0, oI, ixL, itS, itZ, itE, itE2, reprL, mulOwn, gN, g0, lamA, xO, sNil, sRet, sEx, sErr, sBk, sCt, sShare, bind_ret, bind_err, slA0, slAp, slAf, slAs, slD0, slDo, slDs, calling, toB, toD, toS, toI, frz, dataA, allS, mkTup, mkLst, itemsL, itemsT, share, share1, tupG, consG, List.append_nil, List.replicate, List.getElem?_cons_zero, List.getElem?_cons_succ, List.cons_append, List.nil_append, Nat.sub_self, List.length_cons, List.length_nil, List.set_cons_zero, List.set_cons_succ, List.foldl_cons, List.foldl_nil, if_true, if_false, ite_true, ite_false, reduceCtorEq, Nat.reduceAdd, Nat.reduceSub, Nat.reduceLeDiff, Bool.not_true, Bool.not_false, Bool.false_eq_true, pick, List.filterMap_cons, List.filterMap_nil, e_is_lot_of (lot_row n R i)])
  have t1 : isTy "tuple" (encF n R) = true := rfl
  simp only [q_is_relation_of, b_is_relation_of, runD, seqD, ifD, setD, asgD, parD, par3D, setV, extD, appD, ownAt, vD, vA, oA, kA, fzA, bin, tB, tNot, tAnd, tOr, nA, andA, orA, ifA, chA, a0, aC, b0, bC, cal, calK, isA, is2A, slA, o0, oI, ixL, itS, itZ, itE, itE2, reprL, mulOwn, gN, g0, lamA, xO, sNil, sRet, sEx, sErr, sBk, sCt, sShare, bind_ret, bind_err, slA0, slAp, slAf, slAs, slD0, slDo, slDs, calling, toB, toD, toS, toI, frz, dataA, allS, mkTup, mkLst, itemsL, itemsT, share, share1, tupG, consG, List.append_nil, List.replicate, List.getElem?_cons_zero, List.getElem?_cons_succ, List.cons_append, List.nil_append, Nat.sub_self, List.length_cons, List.length_nil, List.set_cons_zero, List.set_cons_succ, List.foldl_cons, List.foldl_nil, if_true, if_false, ite_true, ite_false, reduceCtorEq, Nat.reduceAdd, Nat.reduceSub, Nat.reduceLeDiff, Bool.not_true, Bool.not_false, Bool.false_eq_true, pick, List.filterMap_cons, List.filterMap_nil, l1, all_true, t1, len_F, eq_len, decide_true]
theorem e_is_relation_value {n : Nat} {R : Nat → Nat → Bool} (h1 : 1 ≤ n) (h2 : n ≤ 6) : d_is_relation_value [.sh (encF n R)] = yes := by
  have t1 : isTy "tuple" (encF n R) = true := rfl
  simp only [q_is_relation_value, b_is_relation_value, runD, seqD, ifD, setD, asgD, parD, par3D, setV, extD, appD, ownAt, vD, vA, oA, kA, fzA, bin, tB, tNot, tAnd, tOr, nA, andA, orA, ifA, chA, a0, aC, b0, bC, cal, calK, isA, is2A, slA, o0, oI, ixL, itS, itZ, itE, itE2, reprL, mulOwn, gN, g0, lamA, xO, sNil, sRet, sEx, sErr, sBk, sCt, sShare, bind_ret, bind_err, slA0, slAp, slAf, slAs, slD0, slDo, slDs, calling, toB, toD, toS, toI, frz, dataA, allS, mkTup, mkLst, itemsL, itemsT, share, share1, tupG, consG, List.append_nil, List.replicate, List.getElem?_cons_zero, List.getElem?_cons_succ, List.cons_append, List.nil_append, Nat.sub_self, List.length_cons, List.length_nil, List.set_cons_zero, List.set_cons_succ, List.foldl_cons, List.foldl_nil, if_true, if_false, ite_true, ite_false, reduceCtorEq, Nat.reduceAdd, Nat.reduceSub, Nat.reduceLeDiff, Bool.not_true, Bool.not_false, Bool.false_eq_true, pick, List.filterMap_cons, List.filterMap_nil, t1, len_F, le_II, decide_eq_true (show (1 : Int) ≤ (n : Int) by omega), decide_eq_true (show (n : Int) ≤ 6 by omega), e_is_relation_of]
theorem e_want_relation {n : Nat} {R : Nat → Nat → Bool} (h1 : 1 ≤ n) (h2 : n ≤ 6) : d_want_relation [.sh (encF n R)] = .ret (.sh .none) := by
  simp only [q_want_relation, b_want_relation, runD, seqD, ifD, setD, asgD, parD, par3D, setV, extD, appD, ownAt, vD, vA, oA, kA, fzA, bin, tB, tNot, tAnd, tOr, nA, andA, orA, ifA, chA, a0, aC, b0, bC, cal, calK, isA, is2A, slA, o0, oI, ixL, itS, itZ, itE, itE2, reprL, mulOwn, gN, g0, lamA, xO, sNil, sRet, sEx, sErr, sBk, sCt, sShare, bind_ret, bind_err, slA0, slAp, slAf, slAs, slD0, slDo, slDs, calling, toB, toD, toS, toI, frz, dataA, allS, mkTup, mkLst, itemsL, itemsT, share, share1, tupG, consG, List.append_nil, List.replicate, List.getElem?_cons_zero, List.getElem?_cons_succ, List.cons_append, List.nil_append, Nat.sub_self, List.length_cons, List.length_nil, List.set_cons_zero, List.set_cons_succ, List.foldl_cons, List.foldl_nil, if_true, if_false, ite_true, ite_false, reduceCtorEq, Nat.reduceAdd, Nat.reduceSub, Nat.reduceLeDiff, Bool.not_true, Bool.not_false, Bool.false_eq_true, pick, List.filterMap_cons, List.filterMap_nil, e_is_relation_value h1 h2]
theorem e_by_rule {n : Nat} {g : List PyData → T PyData} {R : Nat → Nat → Bool} (hn : n ≤ 100000) (hg : ∀ i, i < n → ∀ j, j < n → g [iD i, iD j] = .ret (.bool (R i j))) : d_by_rule [.sh (iD n), .fn g] = .ret (.sh (encF n R)) := by
  have inner : ∀ i, i < n → c_by_rule_0 [.sh (iD n), .fn g, .no, .sh (iD i)] = .ret (.own ((rowOf n R i).map iD)) := fun i hi =>
    lcD_eq (itR_n rfl hn) rfl (lcN (e := iD) (R i) iD _ (fun j hj => by
      have hj := List.mem_range.mp hj
      show ((g [iD i, iD j]).bind _).bind toB = _
      rw [hg i hi j hj]
      rfl) fun j _ _ => rfl)
  have outer : c_by_rule_1 [.sh (iD n), .fn g, .no, .no] = .ret (.own ((List.range n).map fun i => encT (rowOf n R i))) :=
    lcD_eq (itR_n rfl hn) rfl (lcN1 (e := iD) (fun i => encT (rowOf n R i)) _ fun i hi => by
      simp only [runD, seqD, ifD, setD, asgD, parD, par3D, setV, extD, appD, ownAt, vD, vA, oA, kA, fzA, bin, tB, tNot, tAnd, tOr, nA, andA, orA, ifA, chA, a0, aC, b0, bC, cal, calK, isA, is2A, slA, o0, oI, ixL, itS, itZ, itE, itE2, reprL, mulOwn, gN, g0, lamA, xO, sNil, sRet, sEx, sErr, sBk, sCt, sShare, bind_ret, bind_err, slA0, slAp, slAf, slAs, slD0, slDo, slDs, calling, toB, toD, toS, toI, frz, dataA, allS, mkTup, mkLst, itemsL, itemsT, share, share1, tupG, consG, List.append_nil, List.replicate, List.getElem?_cons_zero, List.getElem?_cons_succ, List.cons_append, List.nil_append, Nat.sub_self, List.length_cons, List.length_nil, List.set_cons_zero, List.set_cons_succ, List.foldl_cons, List.foldl_nil, if_true, if_false, ite_true, ite_false, reduceCtorEq, Nat.reduceAdd, Nat.reduceSub, Nat.reduceLeDiff, Bool.not_true, Bool.not_false, Bool.false_eq_true, pick, List.filterMap_cons, List.filterMap_nil, inner i (List.mem_range.mp hi), tup_N])
  simp only [q_by_rule, b_by_rule, runD, seqD, ifD, setD, asgD, parD, par3D, setV, extD, appD, ownAt, vD, vA, oA, kA, fzA, bin, tB, tNot, tAnd, tOr, nA, andA, orA, ifA, chA, a0, aC, b0, bC, cal, calK, isA, is2A, slA, o0, oI, ixL, itS, itZ, itE, itE2, reprL, mulOwn, gN, g0, lamA, xO, sNil, sRet, sEx, sErr, sBk, sCt, sShare, bind_ret, bind_err, slA0, slAp, slAf, slAs, slD0, slDo, slDs, calling, toB, toD, toS, toI, frz, dataA, allS, mkTup, mkLst, itemsL, itemsT, share, share1, tupG, consG, List.append_nil, List.replicate, List.getElem?_cons_zero, List.getElem?_cons_succ, List.cons_append, List.nil_append, Nat.sub_self, List.length_cons, List.length_nil, List.set_cons_zero, List.set_cons_succ, List.foldl_cons, List.foldl_nil, if_true, if_false, ite_true, ite_false, reduceCtorEq, Nat.reduceAdd, Nat.reduceSub, Nat.reduceLeDiff, Bool.not_true, Bool.not_false, Bool.false_eq_true, pick, List.filterMap_cons, List.filterMap_nil, outer, tup_l]
  rfl
end Mf
end
section
set_option Elab.async false
set_option linter.all false
set_option autoImplicit false
set_option maxRecDepth 100000
/-! K1 (k71): lots, couples. -/
namespace Mf
open PySem Dn Wk
open Classical

def shr (n : Nat) (R : Nat → Nat → Bool) (l : List Nat) : List Nat := (List.range n).filter fun b => l.all fun a => R a b
def stn (n : Nat) (R : Nat → Nat → Bool) (l : List Nat) : List Nat := (List.range n).filter fun a => l.all fun b => R a b
theorem lot_shr (n : Nat) (R : Nat → Nat → Bool) (l : List Nat) : Lot n (shr n R l) := lot_filter _
theorem lot_stn (n : Nat) (R : Nat → Nat → Bool) (l : List Nat) : Lot n (stn n R l) := lot_filter _
section
variable {n : Nat} {R : Nat → Nat → Bool} {l m : List Nat}
theorem e_want_lot (h : Lot n l) : d_want_lot [.sh (encF n R), .sh (encT l)] = .ret (.sh .none) := by
  simp only [q_want_lot, b_want_lot, runD, seqD, ifD, setD, asgD, parD, par3D, setV, extD, appD, ownAt, vD, vA, oA, kA, fzA, bin, tB, tNot, tAnd, tOr, nA, andA, orA, ifA, chA, a0, aC, b0, bC, cal, calK, isA, is2A, slA, o0, oI, ixL, itS, itZ, itE, itE2, reprL, mulOwn, gN, g0, lamA, xO, sNil, sRet, sEx, sErr, sBk, sCt, sShare, bind_ret, bind_err, slA0, slAp, slAf, slAs, slD0, slDo, slDs, calling, toB, toD, toS, toI, frz, dataA, allS, mkTup, mkLst, itemsL, itemsT, share, share1, tupG, consG, List.append_nil, List.replicate, List.getElem?_cons_zero, List.getElem?_cons_succ, List.cons_append, List.nil_append, Nat.sub_self, List.length_cons, List.length_nil, List.set_cons_zero, List.set_cons_succ, List.foldl_cons, List.foldl_nil, if_true, if_false, ite_true, ite_false, reduceCtorEq, Nat.reduceAdd, Nat.reduceSub, Nat.reduceLeDiff, Bool.not_true, Bool.not_false, Bool.false_eq_true, pick, List.filterMap_cons, List.filterMap_nil, len_F, e_is_lot_of h]
theorem sh_in {c : Dn.Env → T AV} {b : Nat} (hc : c = lcD [3] (itS (vA 1)) (gN 3) (lcTest0) (bin (memD id) (vD 2) (oA (bin ixD (vD 0) (vD 3))))) (h : Lot n l) (hb : b < n) :
    c [.sh (encF n R), .sh (encT l), .sh (iD b), .no] = .ret (.own (l.map fun a => .bool (R a b))) := by
  subst hc
  refine lcD_eq (ds := l.map iD) rfl rfl (lcN1 (e := iD) _ l fun a ha => ?_)
  simp only [runD, seqD, ifD, setD, asgD, parD, par3D, setV, extD, appD, ownAt, vD, vA, oA, kA, fzA, bin, tB, tNot, tAnd, tOr, nA, andA, orA, ifA, chA, a0, aC, b0, bC, cal, calK, isA, is2A, slA, o0, oI, ixL, itS, itZ, itE, itE2, reprL, mulOwn, gN, g0, lamA, xO, sNil, sRet, sEx, sErr, sBk, sCt, sShare, bind_ret, bind_err, slA0, slAp, slAf, slAs, slD0, slDo, slDs, calling, toB, toD, toS, toI, frz, dataA, allS, mkTup, mkLst, itemsL, itemsT, share, share1, tupG, consG, List.append_nil, List.replicate, List.getElem?_cons_zero, List.getElem?_cons_succ, List.cons_append, List.nil_append, Nat.sub_self, List.length_cons, List.length_nil, List.set_cons_zero, List.set_cons_succ, List.foldl_cons, List.foldl_nil, if_true, if_false, ite_true, ite_false, reduceCtorEq, Nat.reduceAdd, Nat.reduceSub, Nat.reduceLeDiff, Bool.not_true, Bool.not_false, Bool.false_eq_true, pick, List.filterMap_cons, List.filterMap_nil, ix_F (h.2 a ha), mem_F hb, id]
theorem sh_out {c d : Dn.Env → T AV} (hd : d = lcD [2] (itR (oA (cal lenD (bC (vD 0) (b0))))) (gN 2) (tB (cal allD (bC (oA c) (b0)))) (vA 2))
    (hc : ∀ b, b < n → c [.sh (encF n R), .sh (encT l), .sh (iD b), .no] = .ret (.own (l.map fun a => .bool (R a b)))) (hn : n ≤ 1000) :
    d [.sh (encF n R), .sh (encT l), .no, .no] = .ret (.own ((shr n R l).map iD)) := by
  subst hd
  refine lcD_eq (itR_n (n := n) (by simp only [runD, seqD, ifD, setD, asgD, parD, par3D, setV, extD, appD, ownAt, vD, vA, oA, kA, fzA, bin, tB, tNot, tAnd, tOr, nA, andA, orA, ifA, chA, a0, aC, b0, bC, cal, calK, isA, is2A, slA, o0, oI, ixL, itS, itZ, itE, itE2, reprL, mulOwn, gN, g0, lamA, xO, sNil, sRet, sEx, sErr, sBk, sCt, sShare, bind_ret, bind_err, slA0, slAp, slAf, slAs, slD0, slDo, slDs, calling, toB, toD, toS, toI, frz, dataA, allS, mkTup, mkLst, itemsL, itemsT, share, share1, tupG, consG, List.append_nil, List.replicate, List.getElem?_cons_zero, List.getElem?_cons_succ, List.cons_append, List.nil_append, Nat.sub_self, List.length_cons, List.length_nil, List.set_cons_zero, List.set_cons_succ, List.foldl_cons, List.foldl_nil, if_true, if_false, ite_true, ite_false, reduceCtorEq, Nat.reduceAdd, Nat.reduceSub, Nat.reduceLeDiff, Bool.not_true, Bool.not_false, Bool.false_eq_true, pick, List.filterMap_cons, List.filterMap_nil, len_F]) (by omega)) rfl (lcN (e := iD) (fun b => l.all fun a => R a b) iD _ (fun b hb => ?_) fun b _ _ => rfl)
  simp only [runD, seqD, ifD, setD, asgD, parD, par3D, setV, extD, appD, ownAt, vD, vA, oA, kA, fzA, bin, tB, tNot, tAnd, tOr, nA, andA, orA, ifA, chA, a0, aC, b0, bC, cal, calK, isA, is2A, slA, o0, oI, ixL, itS, itZ, itE, itE2, reprL, mulOwn, gN, g0, lamA, xO, sNil, sRet, sEx, sErr, sBk, sCt, sShare, bind_ret, bind_err, slA0, slAp, slAf, slAs, slD0, slDo, slDs, calling, toB, toD, toS, toI, frz, dataA, allS, mkTup, mkLst, itemsL, itemsT, share, share1, tupG, consG, List.append_nil, List.replicate, List.getElem?_cons_zero, List.getElem?_cons_succ, List.cons_append, List.nil_append, Nat.sub_self, List.length_cons, List.length_nil, List.set_cons_zero, List.set_cons_succ, List.foldl_cons, List.foldl_nil, if_true, if_false, ite_true, ite_false, reduceCtorEq, Nat.reduceAdd, Nat.reduceSub, Nat.reduceLeDiff, Bool.not_true, Bool.not_false, Bool.false_eq_true, pick, List.filterMap_cons, List.filterMap_nil, hc b (List.mem_range.mp hb), all_map]
theorem e_shared_by (hn : n ≤ 1000) (h : Lot n l) : d_shared_by [.sh (encF n R), .sh (encT l)] = .ret (.sh (encT (shr n R l))) := by
  have l1 := sh_out (d := c_shared_by_1) rfl (fun b hb => sh_in (c := c_shared_by_0) (R := R) rfl h hb) hn
  simp only [q_shared_by, b_shared_by, runD, seqD, ifD, setD, asgD, parD, par3D, setV, extD, appD, ownAt, vD, vA, oA, kA, fzA, bin, tB, tNot, tAnd, tOr, nA, andA, orA, ifA, chA, a0, aC, b0, bC, cal, calK, isA, is2A, slA, o0, oI, ixL, itS, itZ, itE, itE2, reprL, mulOwn, gN, g0, lamA, xO, sNil, sRet, sEx, sErr, sBk, sCt, sShare, bind_ret, bind_err, slA0, slAp, slAf, slAs, slD0, slDo, slDs, calling, toB, toD, toS, toI, frz, dataA, allS, mkTup, mkLst, itemsL, itemsT, share, share1, tupG, consG, List.append_nil, List.replicate, List.getElem?_cons_zero, List.getElem?_cons_succ, List.cons_append, List.nil_append, Nat.sub_self, List.length_cons, List.length_nil, List.set_cons_zero, List.set_cons_succ, List.foldl_cons, List.foldl_nil, if_true, if_false, ite_true, ite_false, reduceCtorEq, Nat.reduceAdd, Nat.reduceSub, Nat.reduceLeDiff, Bool.not_true, Bool.not_false, Bool.false_eq_true, pick, List.filterMap_cons, List.filterMap_nil, l1, tup_N]
theorem e__law_common (hn : n ≤ 1000) (h : Lot n l) : d__law_common [.sh (encF n R), .sh (encT l)] = .ret (.sh (encT (shr n R l))) := by
  have l1 := sh_out (d := c__law_common_1) rfl (fun b hb => sh_in (c := c__law_common_0) (R := R) rfl h hb) hn
  simp only [q__law_common, b__law_common, runD, seqD, ifD, setD, asgD, parD, par3D, setV, extD, appD, ownAt, vD, vA, oA, kA, fzA, bin, tB, tNot, tAnd, tOr, nA, andA, orA, ifA, chA, a0, aC, b0, bC, cal, calK, isA, is2A, slA, o0, oI, ixL, itS, itZ, itE, itE2, reprL, mulOwn, gN, g0, lamA, xO, sNil, sRet, sEx, sErr, sBk, sCt, sShare, bind_ret, bind_err, slA0, slAp, slAf, slAs, slD0, slDo, slDs, calling, toB, toD, toS, toI, frz, dataA, allS, mkTup, mkLst, itemsL, itemsT, share, share1, tupG, consG, List.append_nil, List.replicate, List.getElem?_cons_zero, List.getElem?_cons_succ, List.cons_append, List.nil_append, Nat.sub_self, List.length_cons, List.length_nil, List.set_cons_zero, List.set_cons_succ, List.foldl_cons, List.foldl_nil, if_true, if_false, ite_true, ite_false, reduceCtorEq, Nat.reduceAdd, Nat.reduceSub, Nat.reduceLeDiff, Bool.not_true, Bool.not_false, Bool.false_eq_true, pick, List.filterMap_cons, List.filterMap_nil, l1, tup_N]
theorem e_lot_of_all (h1 : 1 ≤ n) (h2 : n ≤ 6) (h : Lot n l) : d_lot_of_all [.sh (encF n R), .sh (encT l)] = .ret (.sh (encT (shr n R l))) := by
  have l1 := sh_out (d := c_lot_of_all_1) rfl (fun b hb => sh_in (c := c_lot_of_all_0) (R := R) rfl h hb) (show n ≤ 1000 by omega)
  simp only [q_lot_of_all, b_lot_of_all, runD, seqD, ifD, setD, asgD, parD, par3D, setV, extD, appD, ownAt, vD, vA, oA, kA, fzA, bin, tB, tNot, tAnd, tOr, nA, andA, orA, ifA, chA, a0, aC, b0, bC, cal, calK, isA, is2A, slA, o0, oI, ixL, itS, itZ, itE, itE2, reprL, mulOwn, gN, g0, lamA, xO, sNil, sRet, sEx, sErr, sBk, sCt, sShare, bind_ret, bind_err, slA0, slAp, slAf, slAs, slD0, slDo, slDs, calling, toB, toD, toS, toI, frz, dataA, allS, mkTup, mkLst, itemsL, itemsT, share, share1, tupG, consG, List.append_nil, List.replicate, List.getElem?_cons_zero, List.getElem?_cons_succ, List.cons_append, List.nil_append, Nat.sub_self, List.length_cons, List.length_nil, List.set_cons_zero, List.set_cons_succ, List.foldl_cons, List.foldl_nil, if_true, if_false, ite_true, ite_false, reduceCtorEq, Nat.reduceAdd, Nat.reduceSub, Nat.reduceLeDiff, Bool.not_true, Bool.not_false, Bool.false_eq_true, pick, List.filterMap_cons, List.filterMap_nil, e_want_relation h1 h2, e_want_lot h, l1, tup_N]
theorem st_in {c : Dn.Env → T AV} {a : Nat} (hc : c = lcD [4] (itS (vA 1)) (gN 4) (lcTest0) (bin (memD id) (vD 4) (vD 3))) (h : Lot n l) :
    c [.sh (encF n R), .sh (encT l), .sh (iD a), .sh (encT (rowOf n R a)), .no] = .ret (.own (l.map fun b => .bool (R a b))) := by
  subst hc
  refine lcD_eq (ds := l.map iD) rfl rfl (lcN1 (e := iD) _ l fun b hb => ?_)
  simp only [runD, seqD, ifD, setD, asgD, parD, par3D, setV, extD, appD, ownAt, vD, vA, oA, kA, fzA, bin, tB, tNot, tAnd, tOr, nA, andA, orA, ifA, chA, a0, aC, b0, bC, cal, calK, isA, is2A, slA, o0, oI, ixL, itS, itZ, itE, itE2, reprL, mulOwn, gN, g0, lamA, xO, sNil, sRet, sEx, sErr, sBk, sCt, sShare, bind_ret, bind_err, slA0, slAp, slAf, slAs, slD0, slDo, slDs, calling, toB, toD, toS, toI, frz, dataA, allS, mkTup, mkLst, itemsL, itemsT, share, share1, tupG, consG, List.append_nil, List.replicate, List.getElem?_cons_zero, List.getElem?_cons_succ, List.cons_append, List.nil_append, Nat.sub_self, List.length_cons, List.length_nil, List.set_cons_zero, List.set_cons_succ, List.foldl_cons, List.foldl_nil, if_true, if_false, ite_true, ite_false, reduceCtorEq, Nat.reduceAdd, Nat.reduceSub, Nat.reduceLeDiff, Bool.not_true, Bool.not_false, Bool.false_eq_true, pick, List.filterMap_cons, List.filterMap_nil, mem_F (h.2 b hb), id]
theorem st_out {c d : Dn.Env → T AV} (hd : d = lcD [2, 3] (itE2 (aC (vA 0) (a0))) (tupG 2 (consG (gN 2) (consG (gN 3) (g0)))) (tB (cal allD (bC (oA c) (b0)))) (vA 2))
    (hc : ∀ a, c [.sh (encF n R), .sh (encT l), .sh (iD a), .sh (encT (rowOf n R a)), .no] = .ret (.own (l.map fun b => .bool (R a b)))) :
    d [.sh (encF n R), .sh (encT l), .no, .no, .no] = .ret (.own ((stn n R l).map iD)) := by
  subst hd
  refine lcD_eq (ds := (List.range n).map fun i => PyData.tuple [iD i, encT (rowOf n R i)]) (by simp only [runD, seqD, ifD, setD, asgD, parD, par3D, setV, extD, appD, ownAt, vD, vA, oA, kA, fzA, bin, tB, tNot, tAnd, tOr, nA, andA, orA, ifA, chA, a0, aC, b0, bC, cal, calK, isA, is2A, slA, o0, oI, ixL, itS, itZ, itE, itE2, reprL, mulOwn, gN, g0, lamA, xO, sNil, sRet, sEx, sErr, sBk, sCt, sShare, bind_ret, bind_err, slA0, slAp, slAf, slAs, slD0, slDo, slDs, calling, toB, toD, toS, toI, frz, dataA, allS, mkTup, mkLst, itemsL, itemsT, share, share1, tupG, consG, List.append_nil, List.replicate, List.getElem?_cons_zero, List.getElem?_cons_succ, List.cons_append, List.nil_append, Nat.sub_self, List.length_cons, List.length_nil, List.set_cons_zero, List.set_cons_succ, List.foldl_cons, List.foldl_nil, if_true, if_false, ite_true, ite_false, reduceCtorEq, Nat.reduceAdd, Nat.reduceSub, Nat.reduceLeDiff, Bool.not_true, Bool.not_false, Bool.false_eq_true, pick, List.filterMap_cons, List.filterMap_nil, enum_F]) rfl
    (lcG (fun a => [.sh (encF n R), .sh (encT l), .sh (iD a), .sh (encT (rowOf n R a)), .no]) (fun a => l.all fun b => R a b) iD _ (fun a _ => rfl) (fun a _ => ?_) fun a _ _ => rfl)
  simp only [runD, seqD, ifD, setD, asgD, parD, par3D, setV, extD, appD, ownAt, vD, vA, oA, kA, fzA, bin, tB, tNot, tAnd, tOr, nA, andA, orA, ifA, chA, a0, aC, b0, bC, cal, calK, isA, is2A, slA, o0, oI, ixL, itS, itZ, itE, itE2, reprL, mulOwn, gN, g0, lamA, xO, sNil, sRet, sEx, sErr, sBk, sCt, sShare, bind_ret, bind_err, slA0, slAp, slAf, slAs, slD0, slDo, slDs, calling, toB, toD, toS, toI, frz, dataA, allS, mkTup, mkLst, itemsL, itemsT, share, share1, tupG, consG, List.append_nil, List.replicate, List.getElem?_cons_zero, List.getElem?_cons_succ, List.cons_append, List.nil_append, Nat.sub_self, List.length_cons, List.length_nil, List.set_cons_zero, List.set_cons_succ, List.foldl_cons, List.foldl_nil, if_true, if_false, ite_true, ite_false, reduceCtorEq, Nat.reduceAdd, Nat.reduceSub, Nat.reduceLeDiff, Bool.not_true, Bool.not_false, Bool.false_eq_true, pick, List.filterMap_cons, List.filterMap_nil, hc a, all_map]
theorem e_standing_to (h : Lot n l) : d_standing_to [.sh (encF n R), .sh (encT l)] = .ret (.sh (encT (stn n R l))) := by
  have l1 := st_out (d := c_standing_to_1) rfl fun a => st_in (c := c_standing_to_0) (n := n) (R := R) (a := a) rfl h
  simp only [q_standing_to, b_standing_to, runD, seqD, ifD, setD, asgD, parD, par3D, setV, extD, appD, ownAt, vD, vA, oA, kA, fzA, bin, tB, tNot, tAnd, tOr, nA, andA, orA, ifA, chA, a0, aC, b0, bC, cal, calK, isA, is2A, slA, o0, oI, ixL, itS, itZ, itE, itE2, reprL, mulOwn, gN, g0, lamA, xO, sNil, sRet, sEx, sErr, sBk, sCt, sShare, bind_ret, bind_err, slA0, slAp, slAf, slAs, slD0, slDo, slDs, calling, toB, toD, toS, toI, frz, dataA, allS, mkTup, mkLst, itemsL, itemsT, share, share1, tupG, consG, List.append_nil, List.replicate, List.getElem?_cons_zero, List.getElem?_cons_succ, List.cons_append, List.nil_append, Nat.sub_self, List.length_cons, List.length_nil, List.set_cons_zero, List.set_cons_succ, List.foldl_cons, List.foldl_nil, if_true, if_false, ite_true, ite_false, reduceCtorEq, Nat.reduceAdd, Nat.reduceSub, Nat.reduceLeDiff, Bool.not_true, Bool.not_false, Bool.false_eq_true, pick, List.filterMap_cons, List.filterMap_nil, l1, tup_N]
theorem e__law_standing (h : Lot n l) : d__law_standing [.sh (encF n R), .sh (encT l)] = .ret (.sh (encT (stn n R l))) := by
  have l1 := st_out (d := c__law_standing_1) rfl fun a => st_in (c := c__law_standing_0) (n := n) (R := R) (a := a) rfl h
  simp only [q__law_standing, b__law_standing, runD, seqD, ifD, setD, asgD, parD, par3D, setV, extD, appD, ownAt, vD, vA, oA, kA, fzA, bin, tB, tNot, tAnd, tOr, nA, andA, orA, ifA, chA, a0, aC, b0, bC, cal, calK, isA, is2A, slA, o0, oI, ixL, itS, itZ, itE, itE2, reprL, mulOwn, gN, g0, lamA, xO, sNil, sRet, sEx, sErr, sBk, sCt, sShare, bind_ret, bind_err, slA0, slAp, slAf, slAs, slD0, slDo, slDs, calling, toB, toD, toS, toI, frz, dataA, allS, mkTup, mkLst, itemsL, itemsT, share, share1, tupG, consG, List.append_nil, List.replicate, List.getElem?_cons_zero, List.getElem?_cons_succ, List.cons_append, List.nil_append, Nat.sub_self, List.length_cons, List.length_nil, List.set_cons_zero, List.set_cons_succ, List.foldl_cons, List.foldl_nil, if_true, if_false, ite_true, ite_false, reduceCtorEq, Nat.reduceAdd, Nat.reduceSub, Nat.reduceLeDiff, Bool.not_true, Bool.not_false, Bool.false_eq_true, pick, List.filterMap_cons, List.filterMap_nil, l1, tup_N]
/-- two lots together -/
abbrev encC (p : List Nat × List Nat) : PyData := .tuple [encT p.1, encT p.2]
theorem e_couple_from (hn : n ≤ 1000) (h : Lot n l) : d_couple_from [.sh (encF n R), .sh (encT l)] = .ret (.sh (encC (stn n R (shr n R l), shr n R l))) := by
  simp only [q_couple_from, b_couple_from, runD, seqD, ifD, setD, asgD, parD, par3D, setV, extD, appD, ownAt, vD, vA, oA, kA, fzA, bin, tB, tNot, tAnd, tOr, nA, andA, orA, ifA, chA, a0, aC, b0, bC, cal, calK, isA, is2A, slA, o0, oI, ixL, itS, itZ, itE, itE2, reprL, mulOwn, gN, g0, lamA, xO, sNil, sRet, sEx, sErr, sBk, sCt, sShare, bind_ret, bind_err, slA0, slAp, slAf, slAs, slD0, slDo, slDs, calling, toB, toD, toS, toI, frz, dataA, allS, mkTup, mkLst, itemsL, itemsT, share, share1, tupG, consG, List.append_nil, List.replicate, List.getElem?_cons_zero, List.getElem?_cons_succ, List.cons_append, List.nil_append, Nat.sub_self, List.length_cons, List.length_nil, List.set_cons_zero, List.set_cons_succ, List.foldl_cons, List.foldl_nil, if_true, if_false, ite_true, ite_false, reduceCtorEq, Nat.reduceAdd, Nat.reduceSub, Nat.reduceLeDiff, Bool.not_true, Bool.not_false, Bool.false_eq_true, pick, List.filterMap_cons, List.filterMap_nil, e_shared_by hn h, e_standing_to (lot_shr n R l), tup2_4000]
theorem e_couple_to (hn : n ≤ 1000) (h : Lot n l) : d_couple_to [.sh (encF n R), .sh (encT l)] = .ret (.sh (encC (stn n R l, shr n R (stn n R l)))) := by
  simp only [q_couple_to, b_couple_to, runD, seqD, ifD, setD, asgD, parD, par3D, setV, extD, appD, ownAt, vD, vA, oA, kA, fzA, bin, tB, tNot, tAnd, tOr, nA, andA, orA, ifA, chA, a0, aC, b0, bC, cal, calK, isA, is2A, slA, o0, oI, ixL, itS, itZ, itE, itE2, reprL, mulOwn, gN, g0, lamA, xO, sNil, sRet, sEx, sErr, sBk, sCt, sShare, bind_ret, bind_err, slA0, slAp, slAf, slAs, slD0, slDo, slDs, calling, toB, toD, toS, toI, frz, dataA, allS, mkTup, mkLst, itemsL, itemsT, share, share1, tupG, consG, List.append_nil, List.replicate, List.getElem?_cons_zero, List.getElem?_cons_succ, List.cons_append, List.nil_append, Nat.sub_self, List.length_cons, List.length_nil, List.set_cons_zero, List.set_cons_succ, List.foldl_cons, List.foldl_nil, if_true, if_false, ite_true, ite_false, reduceCtorEq, Nat.reduceAdd, Nat.reduceSub, Nat.reduceLeDiff, Bool.not_true, Bool.not_false, Bool.false_eq_true, pick, List.filterMap_cons, List.filterMap_nil, e_standing_to h, e_shared_by hn (lot_stn n R l), tup2_4000]
theorem e_block_from (h1 : 1 ≤ n) (h2 : n ≤ 6) (h : Lot n l) : d_block_from [.sh (encF n R), .sh (encT l)] = .ret (.sh (encC (stn n R (shr n R l), shr n R l))) := by
  simp only [q_block_from, b_block_from, runD, seqD, ifD, setD, asgD, parD, par3D, setV, extD, appD, ownAt, vD, vA, oA, kA, fzA, bin, tB, tNot, tAnd, tOr, nA, andA, orA, ifA, chA, a0, aC, b0, bC, cal, calK, isA, is2A, slA, o0, oI, ixL, itS, itZ, itE, itE2, reprL, mulOwn, gN, g0, lamA, xO, sNil, sRet, sEx, sErr, sBk, sCt, sShare, bind_ret, bind_err, slA0, slAp, slAf, slAs, slD0, slDo, slDs, calling, toB, toD, toS, toI, frz, dataA, allS, mkTup, mkLst, itemsL, itemsT, share, share1, tupG, consG, List.append_nil, List.replicate, List.getElem?_cons_zero, List.getElem?_cons_succ, List.cons_append, List.nil_append, Nat.sub_self, List.length_cons, List.length_nil, List.set_cons_zero, List.set_cons_succ, List.foldl_cons, List.foldl_nil, if_true, if_false, ite_true, ite_false, reduceCtorEq, Nat.reduceAdd, Nat.reduceSub, Nat.reduceLeDiff, Bool.not_true, Bool.not_false, Bool.false_eq_true, pick, List.filterMap_cons, List.filterMap_nil, e_want_relation h1 h2, e_want_lot h, e_couple_from (show n ≤ 1000 by omega) h]
theorem e_block_to (h1 : 1 ≤ n) (h2 : n ≤ 6) (h : Lot n l) : d_block_to [.sh (encF n R), .sh (encT l)] = .ret (.sh (encC (stn n R l, shr n R (stn n R l)))) := by
  simp only [q_block_to, b_block_to, runD, seqD, ifD, setD, asgD, parD, par3D, setV, extD, appD, ownAt, vD, vA, oA, kA, fzA, bin, tB, tNot, tAnd, tOr, nA, andA, orA, ifA, chA, a0, aC, b0, bC, cal, calK, isA, is2A, slA, o0, oI, ixL, itS, itZ, itE, itE2, reprL, mulOwn, gN, g0, lamA, xO, sNil, sRet, sEx, sErr, sBk, sCt, sShare, bind_ret, bind_err, slA0, slAp, slAf, slAs, slD0, slDo, slDs, calling, toB, toD, toS, toI, frz, dataA, allS, mkTup, mkLst, itemsL, itemsT, share, share1, tupG, consG, List.append_nil, List.replicate, List.getElem?_cons_zero, List.getElem?_cons_succ, List.cons_append, List.nil_append, Nat.sub_self, List.length_cons, List.length_nil, List.set_cons_zero, List.set_cons_succ, List.foldl_cons, List.foldl_nil, if_true, if_false, ite_true, ite_false, reduceCtorEq, Nat.reduceAdd, Nat.reduceSub, Nat.reduceLeDiff, Bool.not_true, Bool.not_false, Bool.false_eq_true, pick, List.filterMap_cons, List.filterMap_nil, e_want_relation h1 h2, e_want_lot h, e_couple_to (show n ≤ 1000 by omega) h]
/-! ### all lots -/
theorem add_TT {p q : List Nat} (h : p.length + q.length ≤ 1000000) : addD (encT p) (encT q) = .ret (.sh (encT (p ++ q))) := by
  show (if _ then _ else _) = _
  rw [if_pos (by rw [List.length_map, List.length_map]; exact h)]
  unfold encT
  rw [List.map_append]
theorem subs_step {b : Dn.Env → T Out} {d : Dn.Env → T AV} (hd : d = lcD [3] (itS (vA 1)) (gN 3) (lcTest0) (bin addD (vD 3) (oA (cal mkTup (aC (vA 2) (a0))))))
    (hb : b = setD 1 (fzA (bin addD (vD 1) (oA d)))) {k : Nat} (hk : k ≤ 6) {N : PyData} : b [.sh N, .sh (.list ((subs k).map encT)), .sh (iD k), .no] = .ret (.nx [.sh N, .sh (.list ((subs (k + 1)).map encT)), .sh (iD k), .no]) := by
  have l1 : d [.sh N, .sh (.list ((subs k).map encT)), .sh (iD k), .no] = .ret (.own ((subs k).map fun l => encT (l ++ [k]))) := by
    subst hd
    refine lcD_eq (ds := (subs k).map encT) rfl rfl (lcN1 (e := encT) _ _ fun l hl => ?_)
    have hlen := (mem_subs.mp hl).len
    have e : addD (encT l) (.tuple [iD k]) = .ret (.sh (encT (l ++ [k]))) := add_TT (p := l) (q := [k]) (by rw [List.length_singleton]; omega)
    have z : (1 : Nat) ≤ 4000 := by omega
    simp only [runD, seqD, ifD, setD, asgD, parD, par3D, setV, extD, appD, ownAt, vD, vA, oA, kA, fzA, bin, tB, tNot, tAnd, tOr, nA, andA, orA, ifA, chA, a0, aC, b0, bC, cal, calK, isA, is2A, slA, o0, oI, ixL, itS, itZ, itE, itE2, reprL, mulOwn, gN, g0, lamA, xO, sNil, sRet, sEx, sErr, sBk, sCt, sShare, bind_ret, bind_err, slA0, slAp, slAf, slAs, slD0, slDo, slDs, calling, toB, toD, toS, toI, frz, dataA, allS, mkTup, mkLst, itemsL, itemsT, share, share1, tupG, consG, List.append_nil, List.replicate, List.getElem?_cons_zero, List.getElem?_cons_succ, List.cons_append, List.nil_append, Nat.sub_self, List.length_cons, List.length_nil, List.set_cons_zero, List.set_cons_succ, List.foldl_cons, List.foldl_nil, if_true, if_false, ite_true, ite_false, reduceCtorEq, Nat.reduceAdd, Nat.reduceSub, Nat.reduceLeDiff, Bool.not_true, Bool.not_false, Bool.false_eq_true, pick, List.filterMap_cons, List.filterMap_nil, z, e]
  have hl := len_subs k
  have hp : 2 ^ k ≤ 2 ^ 6 := Nat.pow_le_pow_right (by omega) hk
  have e2 : addD (.list ((subs k).map encT)) (.list ((subs k).map fun l => encT (l ++ [k]))) = .ret (.own ((subs (k + 1)).map encT)) := by
    rw [add_LL (by rw [List.length_map, List.length_map]; omega), subs, List.map_append, List.map_map]
    rfl
  subst hb
  simp only [runD, seqD, ifD, setD, asgD, parD, par3D, setV, extD, appD, ownAt, vD, vA, oA, kA, fzA, bin, tB, tNot, tAnd, tOr, nA, andA, orA, ifA, chA, a0, aC, b0, bC, cal, calK, isA, is2A, slA, o0, oI, ixL, itS, itZ, itE, itE2, reprL, mulOwn, gN, g0, lamA, xO, sNil, sRet, sEx, sErr, sBk, sCt, sShare, bind_ret, bind_err, slA0, slAp, slAf, slAs, slD0, slDo, slDs, calling, toB, toD, toS, toI, frz, dataA, allS, mkTup, mkLst, itemsL, itemsT, share, share1, tupG, consG, List.append_nil, List.replicate, List.getElem?_cons_zero, List.getElem?_cons_succ, List.cons_append, List.nil_append, Nat.sub_self, List.length_cons, List.length_nil, List.set_cons_zero, List.set_cons_succ, List.foldl_cons, List.foldl_nil, if_true, if_false, ite_true, ite_false, reduceCtorEq, Nat.reduceAdd, Nat.reduceSub, Nat.reduceLeDiff, Bool.not_true, Bool.not_false, Bool.false_eq_true, pick, List.filterMap_cons, List.filterMap_nil, l1, e2]
theorem subs_for {b : Dn.Env → T Out} {d : Dn.Env → T AV} (hd : d = lcD [3] (itS (vA 1)) (gN 3) (lcTest0) (bin addD (vD 3) (oA (cal mkTup (aC (vA 2) (a0))))))
    (hb : b = setD 1 (fzA (bin addD (vD 1) (oA d)))) (hn : n ≤ 6) : ∃ x, forD (itR (vD 0)) (gN 2) b [.sh (iD n), .sh (.list [encT []]), .no, .no] = .ret (.nx [.sh (iD n), .sh (.list ((subs n).map encT)), x, .no]) := by
  obtain ⟨ρ', h1, x, rfl⟩ := forI (v := 2) (body := b) (e := iD) (fun pre ρ => ∃ x, ρ = [.sh (iD n), .sh (.list ((subs pre.length).map encT)), x, .no]) (List.range n) [.sh (iD n), .sh (.list [encT []]), .no, .no] ⟨_, rfl⟩ (by
    rintro pre a suf _ e ⟨x, rfl⟩
    have hl : pre.length < n := by
      have := congrArg List.length e
      rw [List.length_range, List.length_append, List.length_cons] at this
      omega
    have ea : a = pre.length := by
      have z := congrArg (fun l : List Nat => l[pre.length]?) e
      simp only [List.getElem?_range hl, List.getElem?_append_right (Nat.le_refl _), Nat.sub_self, List.getElem?_cons_zero, Option.some.injEq] at z
      exact z.symm
    subst ea
    refine ⟨_, subs_step hd hb (k := pre.length) (by omega) (N := iD n), .sh (iD pre.length), ?_⟩
    rw [List.length_append]
    rfl)
  refine ⟨x, ?_⟩
  unfold forD
  rw [itR_n (f := vD 0) rfl (show n ≤ 100000 by omega), bind_ret]
  rw [List.length_range] at h1
  exact h1
theorem e_lots_of (hn : n ≤ 6) : d_lots_of [.sh (iD n)] = .ret (.sh (.list ((subs n).map encT))) := by
  obtain ⟨x, e⟩ := subs_for (b := lb_lots_of_0) (d := c_lots_of_0) rfl rfl hn
  have z0 : (0 : Nat) ≤ 4000 := by omega
  have z1 : (1 : Nat) ≤ 4000 := by omega
  rw [encT_nil.symm] at e
  simp only [q_lots_of, b_lots_of, runD, seqD, ifD, setD, asgD, parD, par3D, setV, extD, appD, ownAt, vD, vA, oA, kA, fzA, bin, tB, tNot, tAnd, tOr, nA, andA, orA, ifA, chA, a0, aC, b0, bC, cal, calK, isA, is2A, slA, o0, oI, ixL, itS, itZ, itE, itE2, reprL, mulOwn, gN, g0, lamA, xO, sNil, sRet, sEx, sErr, sBk, sCt, sShare, bind_ret, bind_err, slA0, slAp, slAf, slAs, slD0, slDo, slDs, calling, toB, toD, toS, toI, frz, dataA, allS, mkTup, mkLst, itemsL, itemsT, share, share1, tupG, consG, List.append_nil, List.replicate, List.getElem?_cons_zero, List.getElem?_cons_succ, List.cons_append, List.nil_append, Nat.sub_self, List.length_cons, List.length_nil, List.set_cons_zero, List.set_cons_succ, List.foldl_cons, List.foldl_nil, if_true, if_false, ite_true, ite_false, reduceCtorEq, Nat.reduceAdd, Nat.reduceSub, Nat.reduceLeDiff, Bool.not_true, Bool.not_false, Bool.false_eq_true, pick, List.filterMap_cons, List.filterMap_nil, z0, z1]
  rw [e]
  rfl
end
end Mf
end
section
set_option Elab.async false
set_option linter.all false
set_option autoImplicit false
set_option maxRecDepth 100000
/-! E3: data in order, each once. -/
namespace Mf
open PySem Dn
open Classical

abbrev dlt (x y : PyData) : Prop := PySem.W.dataLt x y = true
theorem dlt_irr (x : PyData) : ¬ dlt x x := fun h => by
  have e : PySem.W.dataLt x x = false := PyProof.Rows.lex_irrefl _
  rw [dlt, e] at h
  cases h
theorem dlt_trans {x y z : PyData} (h : dlt x y) (h2 : dlt y z) : dlt x z := PyProof.Rows.lex_trans _ _ _ h h2
theorem dlt_asymm {x y : PyData} (h : dlt x y) : ¬ dlt y x := fun h2 => dlt_irr x (dlt_trans h h2)
theorem dlt_total {x y : PyData} (hx : Sx.treeB x = true) (hy : Sx.treeB y = true) (ha : PySem.W.alike x y = true) (hne : x ≠ y) : dlt x y ∨ dlt y x := by
  rcases Classical.em (dlt x y) with h | h
  · exact .inl h
  · rcases Classical.em (dlt y x) with h2 | h2
    · exact .inr h2
    · exact absurd (Sx.tree_eqv x y hx hy (Sx.toks_sep ha (PyProof.Rows.lex_total _ _ (Bool.eq_false_iff.mpr h) (Bool.eq_false_iff.mpr h2)))) hne
theorem lt_D {x y : PyData} (ha : PySem.W.alike x y = true) (hn : x ≠ .none) (hd : x.depth ≤ 64) (hi : ∀ i, x ≠ .int i) : ltD x y = .ret (.sh (.bool (PySem.W.dataLt x y))) := by
  have n1 : isNone x = false := by cases x <;> first | rfl | exact absurd rfl hn
  have gen : (if (PySem.W.alike x y && (!isNone x && decide (x.depth ≤ 64))) = true then T.ret (AV.sh (.bool (PySem.W.dataLt x y))) else .err) = .ret (.sh (.bool (PySem.W.dataLt x y))) := by
    rw [ha, n1, decide_eq_true hd, if_pos (show (true && (!false && true)) = true from rfl)]
  cases x with
  | int i => exact absurd rfl (hi i)
  | _ => exact gen
/-- strictly in order -/
def SS {α : Type} (enc : α → PyData) (l : List α) : Prop := l.Pairwise fun a b => dlt (enc a) (enc b)
theorem SS.nodup {α : Type} {enc : α → PyData} {l : List α} (h : SS enc l) : l.Nodup := h.imp fun {a b} (h : dlt (enc a) (enc b)) (e : a = b) => dlt_irr (enc a) (by rw [← e] at h; exact h)
theorem SS.uniq {α : Type} {enc : α → PyData} {l m : List α} (hl : SS enc l) (hm : SS enc m) (h : ∀ a, a ∈ l ↔ a ∈ m) : l = m :=
  List.Perm.eq_of_pairwise (le := fun a b => dlt (enc a) (enc b)) (fun a b _ _ h1 h2 => absurd h2 (dlt_asymm h1)) hl hm ((List.perm_ext_iff_of_nodup hl.nodup hm.nodup).mpr h)
theorem SS.filter {α : Type} {enc : α → PyData} {l : List α} (h : SS enc l) (p : α → Bool) : SS enc (l.filter p) := List.Pairwise.filter _ h
theorem SS.sub {α : Type} {enc : α → PyData} {l m : List α} (h : SS enc l) (s : m.Sublist l) : SS enc m := List.Pairwise.sublist s h
theorem SS.map {α β : Type} {enc : α → PyData} {enc2 : β → PyData} {f : β → α} {l : List β} (h : SS enc2 l) (hf : ∀ a b, a ∈ l → b ∈ l → dlt (enc2 a) (enc2 b) → dlt (enc (f a)) (enc (f b))) : SS enc (l.map f) := by
  refine List.pairwise_map.mpr (List.Pairwise.imp_of_mem (fun {a b} ha hb h => hf a b ha hb h) h)
theorem le_of_lt {x y : PyData} (h : dlt x y) : PySem.W.dataLe false id x y = true := by
  show (!PySem.W.dataLt y x) = true
  rw [Bool.eq_false_iff.mpr (dlt_asymm h)]
  rfl
theorem SS.two {α : Type} {enc : α → PyData} : ∀ {l : List α}, SS enc l → ∀ a ∈ l, ∀ b ∈ l, a = b ∨ dlt (enc a) (enc b) ∨ dlt (enc b) (enc a)
  | [], _, a, ha, _, _ => absurd ha List.not_mem_nil
  | x :: l, h, a, ha, b, hb => by
    obtain ⟨h1, h2⟩ := List.pairwise_cons.mp h
    rcases List.mem_cons.mp ha with ea | ha2
    · rcases List.mem_cons.mp hb with eb | hb2
      · exact .inl (ea.trans eb.symm)
      · rw [ea]
        exact .inr (.inl (h1 b hb2))
    · rcases List.mem_cons.mp hb with eb | hb2
      · rw [eb]
        exact .inr (.inr (h1 a ha2))
      · exact SS.two h2 a ha2 b hb2
/-- what is sorted stays -/
theorem SS.sorted {α : Type} {enc : α → PyData} {l : List α} (h : SS enc l) : sortOf (l.map enc) = l.map enc := by
  have p : (sortOf (l.map enc)).Perm (l.map enc) := List.mergeSort_perm (l.map enc) (PySem.W.dataLe false id)
  have hs : (l.map enc).Pairwise fun x y => PySem.W.dataLe false id x y = true := List.pairwise_map.mpr (h.imp fun h => le_of_lt h)
  refine List.Perm.eq_of_pairwise (le := fun a b => PySem.W.dataLe false id a b = true) (fun x y hx hy h1 h2 => ?_) (PySem.W.sort_pairwise (PySem.W.sortLe_total _ _ _) _) hs p
  obtain ⟨a, ha, rfl⟩ := List.mem_map.mp (p.mem_iff.mp hx)
  obtain ⟨b, hb, rfl⟩ := List.mem_map.mp hy
  have n1 : ¬ dlt (enc b) (enc a) := fun z => by
    have z1 : (!PySem.W.dataLt (enc b) (enc a)) = true := h1
    rw [z] at z1
    cases z1
  have n2 : ¬ dlt (enc a) (enc b) := fun z => by
    have z1 : (!PySem.W.dataLt (enc a) (enc b)) = true := h2
    rw [z] at z1
    cases z1
  rcases h.two a ha b hb with e | e | e
  · rw [e]
  · exact absurd e n2
  · exact absurd e n1
/-- what is sorted of data that stand for l's -/
theorem SS.of_perm {α : Type} {enc : α → PyData} {l : List α} (h : SS enc l) {ds : List PyData} (hp : ds.Perm (l.map enc)) (ht : ∀ a ∈ l, Sx.treeB (enc a) = true) (hal : ∀ a ∈ l, ∀ b ∈ l, PySem.W.alike (enc a) (enc b) = true) : sortOf ds = l.map enc := by
  have e := Sx.sort_one_list hp.symm (fun d hd => by
    obtain ⟨a, ha, rfl⟩ := List.mem_map.mp hd
    exact ht a ha) (fun d hd e he => by
    obtain ⟨a, ha, rfl⟩ := List.mem_map.mp hd
    obtain ⟨b, hb, rfl⟩ := List.mem_map.mp he
    exact hal a ha b hb)
  exact e.symm.trans h.sorted
theorem nodup_map_inj {α β : Type} {f : α → β} (hf : ∀ a b, f a = f b → a = b) {l : List α} (h : l.Nodup) : (l.map f).Nodup := List.Pairwise.map (R := fun a b => a ≠ b) _ (fun a b hab e => hab (hf a b e)) h
/-- sorted(set(..)) of tuples, known what is in it -/
theorem sortSet_SS {α : Type} {enc : α → PyData} {l : List α} (h : SS enc l) (hinj : ∀ a b, enc a = enc b → a = b) {ds : List PyData} (hm : ∀ x, x ∈ ds ↔ x ∈ l.map enc) (ht : ∀ a ∈ l, tupB (enc a) = true) (hal : ∀ a ∈ l, ∀ b ∈ l, PySem.W.alike (enc a) (enc b) = true) (h76 : ds.length ≤ 76) (hne : ds ≠ []) :
    sortSetX (.list ds) = .ret (.own (l.map enc)) := by
  have okd : ∀ d ∈ ds, ∃ a ∈ l, enc a = d := fun d hd => by
    obtain ⟨a, ha, e⟩ := List.mem_map.mp ((hm d).mp hd)
    exact ⟨a, ha, e⟩
  have tt : ∀ d ∈ ds, tupB d = true := fun d hd => by
    obtain ⟨a, ha, rfl⟩ := okd d hd
    exact ht a ha
  have tr : ∀ d ∈ ds, Sx.treeB d = true := fun d hd => (tupB_ok (tt d hd)).1
  have ni : intsOf ds = none := by
    cases ds with
    | nil => exact absurd rfl hne
    | cons d r =>
      obtain ⟨xs, e⟩ := (tupB_ok (tt d List.mem_cons_self)).2.2
      subst e
      rfl
  have tb : tupsB ds = true := by
    unfold tupsB
    rw [Bool.and_eq_true, Bool.and_eq_true, decide_eq_true_iff]
    refine ⟨⟨List.all_eq_true.mpr tt, ?_⟩, h76⟩
    unfold alikeB
    rw [List.all_eq_true]
    intro d hd
    rw [List.all_eq_true]
    intro e he
    obtain ⟨a, ha, rfl⟩ := okd d hd
    obtain ⟨b, hb, rfl⟩ := okd e he
    exact hal a ha b hb
  have hp : (nubD ds).Perm (l.map enc) := (List.perm_ext_iff_of_nodup (nubD_nodup tr) (nodup_map_inj hinj h.nodup)).mpr fun x => by rw [mem_nubD tr, hm]
  show (match intsOf ds with
    | some ns => _
    | none => if tupsB ds = true then T.ret (AV.own (sortOf (nubD ds))) else .err) = _
  rw [ni]
  show (if tupsB ds = true then T.ret (AV.own (sortOf (nubD ds))) else .err) = _
  rw [if_pos tb, h.of_perm hp (fun a ha => (tupB_ok (ht a ha)).1) hal]
/-- sorted(..) of a list of tuples -/
theorem sorted_SS {α : Type} {enc : α → PyData} {l : List α} (h : SS enc l) {ds : List PyData} (hp : ds.Perm (l.map enc)) (ht : ∀ a ∈ l, tupB (enc a) = true) (hal : ∀ a ∈ l, ∀ b ∈ l, PySem.W.alike (enc a) (enc b) = true) :
    sortedD [.list ds] = .ret (.own (l.map enc)) := by
  have okd : ∀ d ∈ ds, ∃ a ∈ l, enc a = d := fun d hd => by
    obtain ⟨a, ha, e⟩ := List.mem_map.mp (hp.mem_iff.mp hd)
    exact ⟨a, ha, e⟩
  have a1 : alikeB ds = true := by
    unfold alikeB
    rw [List.all_eq_true]
    intro d hd
    rw [List.all_eq_true]
    intro e he
    obtain ⟨a, ha, rfl⟩ := okd d hd
    obtain ⟨b, hb, rfl⟩ := okd e he
    exact hal a ha b hb
  have a2 : sortB ds = true := by
    unfold sortB
    rw [Bool.and_eq_true, Bool.or_eq_true]
    refine ⟨.inl ?_, ?_⟩
    · rw [List.all_eq_true]
      intro d hd
      obtain ⟨a, ha, rfl⟩ := okd d hd
      obtain ⟨xs, e⟩ := (tupB_ok (ht a ha)).2.2
      rw [e]
      rfl
    · rw [List.all_eq_true]
      intro d hd
      obtain ⟨a, ha, rfl⟩ := okd d hd
      exact decide_eq_true (Nat.le_trans (tupB_ok (ht a ha)).2.1 (by omega))
  show sortedL ds = _
  unfold sortedL
  rw [a1, a2, if_pos (show (true && true) = true from rfl), h.of_perm hp (fun a ha => (tupB_ok (ht a ha)).1) hal]
/-! ### lots in order -/
theorem tree_T (l : List Nat) : Sx.treeB (encT l) = true := by
  unfold encT
  rw [Sx.treeB]
  induction l with
  | nil => rfl
  | cons a l ih =>
    rw [List.map_cons, Sx.treeAll, ih]
    simp [Sx.treeB]
theorem depth_T (l : List Nat) : (encT l).depth ≤ 1 := (ok_encT l).2.2
theorem tupB_T (l : List Nat) : tupB (encT l) = true := by
  unfold tupB
  rw [tree_T, decide_eq_true (Nat.le_trans (depth_T l) (by omega))]
  rfl
/-- a list of lots in the tuples' order -/
noncomputable def inOrder (L : List (List Nat)) : List (List Nat) := L.mergeSort (PySem.W.dataLe false encT)
theorem inOrder_perm (L : List (List Nat)) : (inOrder L).Perm L := List.mergeSort_perm _ _
theorem inOrder_SS {L : List (List Nat)} (h : L.Nodup) : SS encT (inOrder L) := by
  have hn : (inOrder L).Nodup := (inOrder_perm L).nodup_iff.mpr h
  have hs : (inOrder L).Pairwise fun a b => PySem.W.dataLe false encT a b = true := PySem.W.sort_pairwise (PySem.W.sortLe_total _ _ _) _
  refine (hn.and hs).imp fun {a b} ⟨h1, h2⟩ => ?_
  have h3 : (!PySem.W.dataLt (encT b) (encT a)) = true := h2
  rcases dlt_total (tree_T a) (tree_T b) (alike_T a b) (fun e => h1 (encT_inj e)) with q | q
  · exact q
  · rw [q] at h3
    cases h3
end Mf
end
section
set_option Elab.async false
set_option linter.all false
set_option autoImplicit false
set_option maxRecDepth 100000
/-! K2 (k71): closed couples. -/
namespace Mf
open PySem Dn Wk
open Classical

section
variable {n : Nat} {R : Nat → Nat → Bool} {l m : List Nat}
theorem mem_shr {b : Nat} : b ∈ shr n R l ↔ b < n ∧ ∀ a ∈ l, R a b = true := by
  unfold shr
  rw [List.mem_filter, List.mem_range, List.all_eq_true]
theorem mem_stn {a : Nat} : a ∈ stn n R l ↔ a < n ∧ ∀ b ∈ l, R a b = true := by
  unfold stn
  rw [List.mem_filter, List.mem_range, List.all_eq_true]
theorem in_stn (h : Lot n l) : ∀ a ∈ l, a ∈ stn n R (shr n R l) := fun a ha => mem_stn.mpr ⟨h.2 a ha, fun b hb => (mem_shr.mp hb).2 a ha⟩
theorem in_shr (h : Lot n l) : ∀ a ∈ l, a ∈ shr n R (stn n R l) := fun a ha => mem_shr.mpr ⟨h.2 a ha, fun b hb => (mem_stn.mp hb).2 a ha⟩
theorem shr3 (h : Lot n l) : shr n R (stn n R (shr n R l)) = shr n R l := (lot_shr n R _).uniq (lot_shr n R l) fun b => by
  constructor
  · intro hb
    exact mem_shr.mpr ⟨(mem_shr.mp hb).1, fun a ha => (mem_shr.mp hb).2 a (in_stn h a ha)⟩
  · exact fun hb => in_shr (lot_shr n R l) b hb
theorem stn3 (h : Lot n l) : stn n R (shr n R (stn n R l)) = stn n R l := (lot_stn n R _).uniq (lot_stn n R l) fun b => by
  constructor
  · intro hb
    exact mem_stn.mpr ⟨(mem_stn.mp hb).1, fun a ha => (mem_stn.mp hb).2 a (in_shr h a ha)⟩
  · exact fun hb => in_stn (lot_stn n R l) b hb
end
/-! ### all lots in order -/
noncomputable def LL (n : Nat) : List (List Nat) := inOrder (subs n)
theorem mem_LL {n : Nat} {l : List Nat} : l ∈ LL n ↔ Lot n l := by
  unfold LL
  rw [(inOrder_perm _).mem_iff, mem_subs]
theorem LL_SS (n : Nat) : SS encT (LL n) := inOrder_SS (nodup_subs n)
theorem LL_len (n : Nat) : (LL n).length = 2 ^ n := by
  unfold LL
  rw [(inOrder_perm _).length_eq, len_subs]
theorem len_64 {n : Nat} (h : n ≤ 6) : 2 ^ n ≤ 64 := Nat.le_trans (Nat.pow_le_pow_right (by omega) h) (by decide)
theorem LL_64 {n : Nat} (h : n ≤ 6) : (LL n).length ≤ 64 := by rw [LL_len]; exact len_64 h
theorem dlt_nil {l : List Nat} (h : l ≠ []) : dlt (encT []) (encT l) := by
  cases l with
  | nil => exact absurd rfl h
  | cons a l =>
    show PySem.W.dataLt (.tuple []) (.tuple (iD a :: l.map iD)) = true
    rw [PySem.W.dataLt_tuple, PySem.W.toks_all_cons]
    simp only [PySem.W.keyToksAll]
    rw [PyProof.Rows.lex_diff (O := PyProof.Rows.itemOrd) (by simp)]
    rfl
theorem LL_head (n : Nat) : LL n = [] :: (LL n).filter fun l => !decide (l = []) := by
  refine SS.uniq (LL_SS n) (List.pairwise_cons.mpr ⟨fun l hl => ?_, (LL_SS n).filter _⟩) fun l => ?_
  · rw [List.mem_filter] at hl
    exact dlt_nil (by simpa using hl.2)
  · rw [List.mem_cons, List.mem_filter, mem_LL]
    constructor
    · intro h
      by_cases e : l = []
      · exact .inl e
      · exact .inr ⟨h, by simpa using e⟩
    · rintro (rfl | h)
      · exact lot_nil n
      · exact h.1
theorem e__law_lots {n : Nat} (hn : n ≤ 6) : d__law_lots [.sh (iD n)] = .ret (.own ((LL n).map encT)) := by
  obtain ⟨x, e⟩ := subs_for (b := lb__law_lots_0) (d := c__law_lots_0) rfl rfl hn
  have z0 : (0 : Nat) ≤ 4000 := by omega
  have z1 : (1 : Nat) ≤ 4000 := by omega
  rw [encT_nil.symm] at e
  have e2 : sortedD [.list ((subs n).map encT)] = .ret (.own ((LL n).map encT)) := sorted_SS (LL_SS n) ((inOrder_perm (subs n)).map encT).symm (fun a _ => tupB_T a) fun a _ b _ => alike_T a b
  simp only [q__law_lots, b__law_lots, runD, seqD, ifD, setD, asgD, parD, par3D, setV, extD, appD, ownAt, vD, vA, oA, kA, fzA, bin, tB, tNot, tAnd, tOr, nA, andA, orA, ifA, chA, a0, aC, b0, bC, cal, calK, isA, is2A, slA, o0, oI, ixL, itS, itZ, itE, itE2, reprL, mulOwn, gN, g0, lamA, xO, sNil, sRet, sEx, sErr, sBk, sCt, sShare, bind_ret, bind_err, slA0, slAp, slAf, slAs, slD0, slDo, slDs, calling, toB, toD, toS, toI, frz, dataA, allS, mkTup, mkLst, itemsL, itemsT, share, share1, tupG, consG, List.append_nil, List.replicate, List.getElem?_cons_zero, List.getElem?_cons_succ, List.cons_append, List.nil_append, Nat.sub_self, List.length_cons, List.length_nil, List.set_cons_zero, List.set_cons_succ, List.foldl_cons, List.foldl_nil, if_true, if_false, ite_true, ite_false, reduceCtorEq, Nat.reduceAdd, Nat.reduceSub, Nat.reduceLeDiff, Bool.not_true, Bool.not_false, Bool.false_eq_true, pick, List.filterMap_cons, List.filterMap_nil, z0, z1]
  rw [e]
  simp only [runD, seqD, ifD, setD, asgD, parD, par3D, setV, extD, appD, ownAt, vD, vA, oA, kA, fzA, bin, tB, tNot, tAnd, tOr, nA, andA, orA, ifA, chA, a0, aC, b0, bC, cal, calK, isA, is2A, slA, o0, oI, ixL, itS, itZ, itE, itE2, reprL, mulOwn, gN, g0, lamA, xO, sNil, sRet, sEx, sErr, sBk, sCt, sShare, bind_ret, bind_err, slA0, slAp, slAf, slAs, slD0, slDo, slDs, calling, toB, toD, toS, toI, frz, dataA, allS, mkTup, mkLst, itemsL, itemsT, share, share1, tupG, consG, List.append_nil, List.replicate, List.getElem?_cons_zero, List.getElem?_cons_succ, List.cons_append, List.nil_append, Nat.sub_self, List.length_cons, List.length_nil, List.set_cons_zero, List.set_cons_succ, List.foldl_cons, List.foldl_nil, if_true, if_false, ite_true, ite_false, reduceCtorEq, Nat.reduceAdd, Nat.reduceSub, Nat.reduceLeDiff, Bool.not_true, Bool.not_false, Bool.false_eq_true, pick, List.filterMap_cons, List.filterMap_nil, e2]
/-! ### couples -/
theorem tree_C (p : List Nat × List Nat) : Sx.treeB (encC p) = true := by
  show Sx.treeAll [encT p.1, encT p.2] = true
  rw [Sx.treeAll, Sx.treeAll, Sx.treeAll, tree_T, tree_T]
  rfl
theorem ok_encC (p : List Nat × List Nat) : Ok 2 (encC p) := Ok.tuple fun x hx => by
  rcases List.mem_cons.mp hx with rfl | hx
  · exact ok_encT _
  · rw [List.mem_singleton.mp hx]
    exact ok_encT _
theorem tupB_C (p : List Nat × List Nat) : tupB (encC p) = true := by
  unfold tupB
  rw [tree_C, decide_eq_true (Nat.le_trans (ok_encC p).2.2 (by omega))]
  rfl
theorem alike_C (p q : List Nat × List Nat) : PySem.W.alike (encC p) (encC q) = true := by
  rw [PySem.W.alike, PySem.W.alikeAll, PySem.W.alikeAll, alike_T, alike_T, PySem.W.alikeAll]
  rfl
theorem encC_inj {p q : List Nat × List Nat} (h : encC p = encC q) : p = q := by
  have h := PyData.tuple.inj h
  rw [List.cons.injEq, List.cons.injEq] at h
  exact Prod.ext (encT_inj h.1) (encT_inj h.2.1)
theorem dlt_C1 {p q : List Nat × List Nat} (h : dlt (encT p.1) (encT q.1)) : dlt (encC p) (encC q) := by
  have ne : PyData.eqv (encT p.1) (encT q.1) = false := Bool.eq_false_iff.mpr fun e => by
    rw [Sx.tree_eqv _ _ (tree_T _) (tree_T _) e] at h
    exact dlt_irr _ h
  show PySem.W.dataLt _ _ = true
  rw [PySem.W.dataLt_pair (alike_T _ _) (alike_T _ _), ne, if_neg Bool.false_ne_true]
  exact h
theorem dlt_C2 {a : List Nat} {x y : List Nat} (h : dlt (encT x) (encT y)) : dlt (encC (a, x)) (encC (a, y)) := by
  have ne : PyData.eqv (encT x) (encT y) = false := Bool.eq_false_iff.mpr fun e => by
    rw [Sx.tree_eqv _ _ (tree_T _) (tree_T _) e] at h
    exact dlt_irr _ h
  show PySem.W.dataLt _ _ = true
  rw [PySem.W.dataLt_pair (alike_T _ _) (alike_T _ _), (tree_refl (tree_T a) _ (tree_T a)).mpr rfl, if_pos rfl, ne, if_neg Bool.false_ne_true]
  exact h
/-- the closed couples, in order -/
noncomputable def CP (n : Nat) (R : Nat → Nat → Bool) : List (List Nat × List Nat) := ((LL n).filter fun l => decide (stn n R (shr n R l) = l)).map fun l => (l, shr n R l)
noncomputable def GB (n : Nat) (R : Nat → Nat → Bool) : List (List Nat × List Nat) := (CP n R).filter fun p => !decide (p.1 = []) && !decide (p.2 = [])
section
variable {n : Nat} {R : Nat → Nat → Bool} {l m : List Nat} {p q : List Nat × List Nat}
theorem mem_CP : p ∈ CP n R ↔ Lot n p.1 ∧ Lot n p.2 ∧ stn n R p.2 = p.1 ∧ shr n R p.1 = p.2 := by
  unfold CP
  rw [List.mem_map]
  constructor
  · rintro ⟨l, hl, rfl⟩
    rw [List.mem_filter, mem_LL, decide_eq_true_iff] at hl
    exact ⟨hl.1, lot_shr n R l, hl.2, rfl⟩
  · rintro ⟨h1, h2, h3, h4⟩
    refine ⟨p.1, ?_, Prod.ext rfl h4⟩
    rw [List.mem_filter, mem_LL, decide_eq_true_iff, h4]
    exact ⟨h1, h3⟩
theorem CP_SS (n : Nat) (R : Nat → Nat → Bool) : SS encC (CP n R) := SS.map ((LL_SS n).filter _) fun a b _ _ h => dlt_C1 h
theorem CP_64 (hn : n ≤ 6) : (CP n R).length ≤ 64 := by
  unfold CP
  rw [List.length_map]
  exact Nat.le_trans (List.length_filter_le _ _) (LL_64 hn)
theorem mem_GB : p ∈ GB n R ↔ p ∈ CP n R ∧ p.1 ≠ [] ∧ p.2 ≠ [] := by
  unfold GB
  rw [List.mem_filter]
  simp
theorem e_all_couples (hn : n ≤ 6) : d_all_couples [.sh (encF n R)] = .ret (.own ((CP n R).map encC)) := by
  have l1 : c_all_couples_0 [.sh (encF n R), .no] = .ret (.own ((subs n).map fun l => encC (stn n R (shr n R l), shr n R l))) := by
    refine lcD_eq (ds := (subs n).map encT) (by simp only [runD, seqD, ifD, setD, asgD, parD, par3D, setV, extD, appD, ownAt, vD, vA, oA, kA, fzA, bin, tB, tNot, tAnd, tOr, nA, andA, orA, ifA, chA, a0, aC, b0, bC, cal, calK, isA, is2A, slA, o0, oI, ixL, itS, itZ, itE, itE2, reprL, mulOwn, gN, g0, lamA, xO, sNil, sRet, sEx, sErr, sBk, sCt, sShare, bind_ret, bind_err, slA0, slAp, slAf, slAs, slD0, slDo, slDs, calling, toB, toD, toS, toI, frz, dataA, allS, mkTup, mkLst, itemsL, itemsT, share, share1, tupG, consG, List.append_nil, List.replicate, List.getElem?_cons_zero, List.getElem?_cons_succ, List.cons_append, List.nil_append, Nat.sub_self, List.length_cons, List.length_nil, List.set_cons_zero, List.set_cons_succ, List.foldl_cons, List.foldl_nil, if_true, if_false, ite_true, ite_false, reduceCtorEq, Nat.reduceAdd, Nat.reduceSub, Nat.reduceLeDiff, Bool.not_true, Bool.not_false, Bool.false_eq_true, pick, List.filterMap_cons, List.filterMap_nil, len_F, e_lots_of hn]) rfl (lcN1 (e := encT) _ _ fun l hl => ?_)
    simp only [runD, seqD, ifD, setD, asgD, parD, par3D, setV, extD, appD, ownAt, vD, vA, oA, kA, fzA, bin, tB, tNot, tAnd, tOr, nA, andA, orA, ifA, chA, a0, aC, b0, bC, cal, calK, isA, is2A, slA, o0, oI, ixL, itS, itZ, itE, itE2, reprL, mulOwn, gN, g0, lamA, xO, sNil, sRet, sEx, sErr, sBk, sCt, sShare, bind_ret, bind_err, slA0, slAp, slAf, slAs, slD0, slDo, slDs, calling, toB, toD, toS, toI, frz, dataA, allS, mkTup, mkLst, itemsL, itemsT, share, share1, tupG, consG, List.append_nil, List.replicate, List.getElem?_cons_zero, List.getElem?_cons_succ, List.cons_append, List.nil_append, Nat.sub_self, List.length_cons, List.length_nil, List.set_cons_zero, List.set_cons_succ, List.foldl_cons, List.foldl_nil, if_true, if_false, ite_true, ite_false, reduceCtorEq, Nat.reduceAdd, Nat.reduceSub, Nat.reduceLeDiff, Bool.not_true, Bool.not_false, Bool.false_eq_true, pick, List.filterMap_cons, List.filterMap_nil, e_couple_from (show n ≤ 1000 by omega) (mem_subs.mp hl)]
  have e2 : sortSetX (.list ((subs n).map fun l => encC (stn n R (shr n R l), shr n R l))) = .ret (.own ((CP n R).map encC)) := by
    refine sortSet_SS (CP_SS n R) (fun a b => encC_inj) (fun x => ?_) (fun a _ => tupB_C a) (fun a _ b _ => alike_C a b) ?_ ?_
    · rw [List.mem_map, List.mem_map]
      constructor
      · rintro ⟨l, hl, rfl⟩
        have hl := mem_subs.mp hl
        exact ⟨_, mem_CP.mpr ⟨lot_stn n R _, lot_shr n R l, rfl, shr3 hl⟩, rfl⟩
      · rintro ⟨p, hp, rfl⟩
        obtain ⟨h1, h2, h3, h4⟩ := mem_CP.mp hp
        refine ⟨p.1, mem_subs.mpr h1, ?_⟩
        rw [h4, h3]
    · rw [List.length_map, len_subs]
      have := len_64 hn
      omega
    · obtain ⟨r, e⟩ := head_subs n
      rw [e]
      simp
  simp only [q_all_couples, b_all_couples, runD, seqD, ifD, setD, asgD, parD, par3D, setV, extD, appD, ownAt, vD, vA, oA, kA, fzA, bin, tB, tNot, tAnd, tOr, nA, andA, orA, ifA, chA, a0, aC, b0, bC, cal, calK, isA, is2A, slA, o0, oI, ixL, itS, itZ, itE, itE2, reprL, mulOwn, gN, g0, lamA, xO, sNil, sRet, sEx, sErr, sBk, sCt, sShare, bind_ret, bind_err, slA0, slAp, slAf, slAs, slD0, slDo, slDs, calling, toB, toD, toS, toI, frz, dataA, allS, mkTup, mkLst, itemsL, itemsT, share, share1, tupG, consG, List.append_nil, List.replicate, List.getElem?_cons_zero, List.getElem?_cons_succ, List.cons_append, List.nil_append, Nat.sub_self, List.length_cons, List.length_nil, List.set_cons_zero, List.set_cons_succ, List.foldl_cons, List.foldl_nil, if_true, if_false, ite_true, ite_false, reduceCtorEq, Nat.reduceAdd, Nat.reduceSub, Nat.reduceLeDiff, Bool.not_true, Bool.not_false, Bool.false_eq_true, pick, List.filterMap_cons, List.filterMap_nil, l1, e2]
theorem ix_C0 : ixD (encC p) (.int 0) = .ret (.sh (encT p.1)) := rfl
theorem ix_C1 : ixD (encC p) (.int 1) = .ret (.sh (encT p.2)) := rfl
theorem e_all_greatest (hn : n ≤ 6) : d_all_greatest [.sh (encF n R)] = .ret (.own ((GB n R).map encC)) := by
  have z0 : (0 : Nat) ≤ 4000 := by omega
  have l1 : c_all_greatest_0 [.sh (encF n R), .no] = .ret (.own ((GB n R).map encC)) := by
    refine lcD_eq (ds := (CP n R).map encC) (by simp only [runD, seqD, ifD, setD, asgD, parD, par3D, setV, extD, appD, ownAt, vD, vA, oA, kA, fzA, bin, tB, tNot, tAnd, tOr, nA, andA, orA, ifA, chA, a0, aC, b0, bC, cal, calK, isA, is2A, slA, o0, oI, ixL, itS, itZ, itE, itE2, reprL, mulOwn, gN, g0, lamA, xO, sNil, sRet, sEx, sErr, sBk, sCt, sShare, bind_ret, bind_err, slA0, slAp, slAf, slAs, slD0, slDo, slDs, calling, toB, toD, toS, toI, frz, dataA, allS, mkTup, mkLst, itemsL, itemsT, share, share1, tupG, consG, List.append_nil, List.replicate, List.getElem?_cons_zero, List.getElem?_cons_succ, List.cons_append, List.nil_append, Nat.sub_self, List.length_cons, List.length_nil, List.set_cons_zero, List.set_cons_succ, List.foldl_cons, List.foldl_nil, if_true, if_false, ite_true, ite_false, reduceCtorEq, Nat.reduceAdd, Nat.reduceSub, Nat.reduceLeDiff, Bool.not_true, Bool.not_false, Bool.false_eq_true, pick, List.filterMap_cons, List.filterMap_nil, e_all_couples hn]) rfl (lcN (e := encC) _ encC (CP n R) (fun p hp => ?_) fun p _ _ => rfl)
    simp only [runD, seqD, ifD, setD, asgD, parD, par3D, setV, extD, appD, ownAt, vD, vA, oA, kA, fzA, bin, tB, tNot, tAnd, tOr, nA, andA, orA, ifA, chA, a0, aC, b0, bC, cal, calK, isA, is2A, slA, o0, oI, ixL, itS, itZ, itE, itE2, reprL, mulOwn, gN, g0, lamA, xO, sNil, sRet, sEx, sErr, sBk, sCt, sShare, bind_ret, bind_err, slA0, slAp, slAf, slAs, slD0, slDo, slDs, calling, toB, toD, toS, toI, frz, dataA, allS, mkTup, mkLst, itemsL, itemsT, share, share1, tupG, consG, List.append_nil, List.replicate, List.getElem?_cons_zero, List.getElem?_cons_succ, List.cons_append, List.nil_append, Nat.sub_self, List.length_cons, List.length_nil, List.set_cons_zero, List.set_cons_succ, List.foldl_cons, List.foldl_nil, if_true, if_false, ite_true, ite_false, reduceCtorEq, Nat.reduceAdd, Nat.reduceSub, Nat.reduceLeDiff, Bool.not_true, Bool.not_false, Bool.false_eq_true, pick, List.filterMap_cons, List.filterMap_nil, z0, encT_nil, ix_C0, ix_C1, ne_TT]
    cases decide (p.1 = []) <;> simp
  simp only [q_all_greatest, b_all_greatest, runD, seqD, ifD, setD, asgD, parD, par3D, setV, extD, appD, ownAt, vD, vA, oA, kA, fzA, bin, tB, tNot, tAnd, tOr, nA, andA, orA, ifA, chA, a0, aC, b0, bC, cal, calK, isA, is2A, slA, o0, oI, ixL, itS, itZ, itE, itE2, reprL, mulOwn, gN, g0, lamA, xO, sNil, sRet, sEx, sErr, sBk, sCt, sShare, bind_ret, bind_err, slA0, slAp, slAf, slAs, slD0, slDo, slDs, calling, toB, toD, toS, toI, frz, dataA, allS, mkTup, mkLst, itemsL, itemsT, share, share1, tupG, consG, List.append_nil, List.replicate, List.getElem?_cons_zero, List.getElem?_cons_succ, List.cons_append, List.nil_append, Nat.sub_self, List.length_cons, List.length_nil, List.set_cons_zero, List.set_cons_succ, List.foldl_cons, List.foldl_nil, if_true, if_false, ite_true, ite_false, reduceCtorEq, Nat.reduceAdd, Nat.reduceSub, Nat.reduceLeDiff, Bool.not_true, Bool.not_false, Bool.false_eq_true, pick, List.filterMap_cons, List.filterMap_nil, l1]
theorem e_closed_couples (h1 : 1 ≤ n) (h2 : n ≤ 6) : d_closed_couples [.sh (encF n R)] = .ret (.own ((CP n R).map encC)) := by
  simp only [q_closed_couples, b_closed_couples, runD, seqD, ifD, setD, asgD, parD, par3D, setV, extD, appD, ownAt, vD, vA, oA, kA, fzA, bin, tB, tNot, tAnd, tOr, nA, andA, orA, ifA, chA, a0, aC, b0, bC, cal, calK, isA, is2A, slA, o0, oI, ixL, itS, itZ, itE, itE2, reprL, mulOwn, gN, g0, lamA, xO, sNil, sRet, sEx, sErr, sBk, sCt, sShare, bind_ret, bind_err, slA0, slAp, slAf, slAs, slD0, slDo, slDs, calling, toB, toD, toS, toI, frz, dataA, allS, mkTup, mkLst, itemsL, itemsT, share, share1, tupG, consG, List.append_nil, List.replicate, List.getElem?_cons_zero, List.getElem?_cons_succ, List.cons_append, List.nil_append, Nat.sub_self, List.length_cons, List.length_nil, List.set_cons_zero, List.set_cons_succ, List.foldl_cons, List.foldl_nil, if_true, if_false, ite_true, ite_false, reduceCtorEq, Nat.reduceAdd, Nat.reduceSub, Nat.reduceLeDiff, Bool.not_true, Bool.not_false, Bool.false_eq_true, pick, List.filterMap_cons, List.filterMap_nil, e_want_relation h1 h2, e_all_couples h2]
theorem e_greatest_blocks (h1 : 1 ≤ n) (h2 : n ≤ 6) : d_greatest_blocks [.sh (encF n R)] = .ret (.own ((GB n R).map encC)) := by
  simp only [q_greatest_blocks, b_greatest_blocks, runD, seqD, ifD, setD, asgD, parD, par3D, setV, extD, appD, ownAt, vD, vA, oA, kA, fzA, bin, tB, tNot, tAnd, tOr, nA, andA, orA, ifA, chA, a0, aC, b0, bC, cal, calK, isA, is2A, slA, o0, oI, ixL, itS, itZ, itE, itE2, reprL, mulOwn, gN, g0, lamA, xO, sNil, sRet, sEx, sErr, sBk, sCt, sShare, bind_ret, bind_err, slA0, slAp, slAf, slAs, slD0, slDo, slDs, calling, toB, toD, toS, toI, frz, dataA, allS, mkTup, mkLst, itemsL, itemsT, share, share1, tupG, consG, List.append_nil, List.replicate, List.getElem?_cons_zero, List.getElem?_cons_succ, List.cons_append, List.nil_append, Nat.sub_self, List.length_cons, List.length_nil, List.set_cons_zero, List.set_cons_succ, List.foldl_cons, List.foldl_nil, if_true, if_false, ite_true, ite_false, reduceCtorEq, Nat.reduceAdd, Nat.reduceSub, Nat.reduceLeDiff, Bool.not_true, Bool.not_false, Bool.false_eq_true, pick, List.filterMap_cons, List.filterMap_nil, e_want_relation h1 h2, e_all_greatest h2]
/-! ### judges -/
theorem e_is_tuple {ds : List PyData} {k : Nat} : d_is_tuple [.sh (.tuple ds), .sh (iD k)] = .ret (.sh (.bool (decide (ds.length = k)))) := by
  have t1 : isTy "tuple" (.tuple ds) = true := rfl
  simp only [q_is_tuple, b_is_tuple, runD, seqD, ifD, setD, asgD, parD, par3D, setV, extD, appD, ownAt, vD, vA, oA, kA, fzA, bin, tB, tNot, tAnd, tOr, nA, andA, orA, ifA, chA, a0, aC, b0, bC, cal, calK, isA, is2A, slA, o0, oI, ixL, itS, itZ, itE, itE2, reprL, mulOwn, gN, g0, lamA, xO, sNil, sRet, sEx, sErr, sBk, sCt, sShare, bind_ret, bind_err, slA0, slAp, slAf, slAs, slD0, slDo, slDs, calling, toB, toD, toS, toI, frz, dataA, allS, mkTup, mkLst, itemsL, itemsT, share, share1, tupG, consG, List.append_nil, List.replicate, List.getElem?_cons_zero, List.getElem?_cons_succ, List.cons_append, List.nil_append, Nat.sub_self, List.length_cons, List.length_nil, List.set_cons_zero, List.set_cons_succ, List.foldl_cons, List.foldl_nil, if_true, if_false, ite_true, ite_false, reduceCtorEq, Nat.reduceAdd, Nat.reduceSub, Nat.reduceLeDiff, Bool.not_true, Bool.not_false, Bool.false_eq_true, pick, List.filterMap_cons, List.filterMap_nil, t1, len_t, eq_len]
theorem e_are_two_lots (h : Lot n p.1) (h' : Lot n p.2) : d_are_two_lots [.sh (iD n), .sh (encC p)] = yes := by
  have e := e_is_tuple (ds := [encT p.1, encT p.2]) (k := 2)
  have e3 : d_is_tuple [.sh (encC p), .sh (.int 2)] = yes := e.trans rfl
  simp only [q_are_two_lots, b_are_two_lots, runD, seqD, ifD, setD, asgD, parD, par3D, setV, extD, appD, ownAt, vD, vA, oA, kA, fzA, bin, tB, tNot, tAnd, tOr, nA, andA, orA, ifA, chA, a0, aC, b0, bC, cal, calK, isA, is2A, slA, o0, oI, ixL, itS, itZ, itE, itE2, reprL, mulOwn, gN, g0, lamA, xO, sNil, sRet, sEx, sErr, sBk, sCt, sShare, bind_ret, bind_err, slA0, slAp, slAf, slAs, slD0, slDo, slDs, calling, toB, toD, toS, toI, frz, dataA, allS, mkTup, mkLst, itemsL, itemsT, share, share1, tupG, consG, List.append_nil, List.replicate, List.getElem?_cons_zero, List.getElem?_cons_succ, List.cons_append, List.nil_append, Nat.sub_self, List.length_cons, List.length_nil, List.set_cons_zero, List.set_cons_succ, List.foldl_cons, List.foldl_nil, if_true, if_false, ite_true, ite_false, reduceCtorEq, Nat.reduceAdd, Nat.reduceSub, Nat.reduceLeDiff, Bool.not_true, Bool.not_false, Bool.false_eq_true, pick, List.filterMap_cons, List.filterMap_nil, e3, ix_C0, ix_C1, e_is_lot_of h, e_is_lot_of h']
theorem eq_CC : eqA (encC p) (encC q) = .ret (.sh (.bool (decide (p = q)))) := by
  rw [eqA_d (ok_encC p) (ok_encC q)]
  congr 3
  exact decide_eq_decide.mpr ⟨encC_inj, fun h => by rw [h]⟩
theorem e_is_couple_value (hn : n ≤ 1000) (h : Lot n p.1) (h' : Lot n p.2) : d_is_couple_value [.sh (encF n R), .sh (encC p)] = .ret (.sh (.bool (decide (p ∈ CP n R)))) := by
  have e : eqA (encC p) (.tuple [encT (stn n R p.2), encT (shr n R p.1)]) = .ret (.sh (.bool (decide (p ∈ CP n R)))) := by
    refine (eq_CC (p := p) (q := (stn n R p.2, shr n R p.1))).trans ?_
    congr 3
    refine decide_eq_decide.mpr ⟨fun e => ?_, fun hp => ?_⟩
    · exact mem_CP.mpr ⟨h, h', (congrArg Prod.fst e).symm, (congrArg Prod.snd e).symm⟩
    · obtain ⟨_, _, e1, e2⟩ := mem_CP.mp hp
      exact Prod.ext e1.symm e2.symm
  have z2 : (2 : Nat) ≤ 4000 := by omega
  simp only [q_is_couple_value, b_is_couple_value, runD, seqD, ifD, setD, asgD, parD, par3D, setV, extD, appD, ownAt, vD, vA, oA, kA, fzA, bin, tB, tNot, tAnd, tOr, nA, andA, orA, ifA, chA, a0, aC, b0, bC, cal, calK, isA, is2A, slA, o0, oI, ixL, itS, itZ, itE, itE2, reprL, mulOwn, gN, g0, lamA, xO, sNil, sRet, sEx, sErr, sBk, sCt, sShare, bind_ret, bind_err, slA0, slAp, slAf, slAs, slD0, slDo, slDs, calling, toB, toD, toS, toI, frz, dataA, allS, mkTup, mkLst, itemsL, itemsT, share, share1, tupG, consG, List.append_nil, List.replicate, List.getElem?_cons_zero, List.getElem?_cons_succ, List.cons_append, List.nil_append, Nat.sub_self, List.length_cons, List.length_nil, List.set_cons_zero, List.set_cons_succ, List.foldl_cons, List.foldl_nil, if_true, if_false, ite_true, ite_false, reduceCtorEq, Nat.reduceAdd, Nat.reduceSub, Nat.reduceLeDiff, Bool.not_true, Bool.not_false, Bool.false_eq_true, pick, List.filterMap_cons, List.filterMap_nil, z2, len_F, e_are_two_lots h h', ix_C0, ix_C1, e_standing_to h', e_shared_by hn h, e]
theorem e_want_couple (hn : n ≤ 1000) (h : p ∈ CP n R) : d_want_couple [.sh (encF n R), .sh (encC p)] = .ret (.sh .none) := by
  obtain ⟨h1, h2, _⟩ := mem_CP.mp h
  simp only [q_want_couple, b_want_couple, runD, seqD, ifD, setD, asgD, parD, par3D, setV, extD, appD, ownAt, vD, vA, oA, kA, fzA, bin, tB, tNot, tAnd, tOr, nA, andA, orA, ifA, chA, a0, aC, b0, bC, cal, calK, isA, is2A, slA, o0, oI, ixL, itS, itZ, itE, itE2, reprL, mulOwn, gN, g0, lamA, xO, sNil, sRet, sEx, sErr, sBk, sCt, sShare, bind_ret, bind_err, slA0, slAp, slAf, slAs, slD0, slDo, slDs, calling, toB, toD, toS, toI, frz, dataA, allS, mkTup, mkLst, itemsL, itemsT, share, share1, tupG, consG, List.append_nil, List.replicate, List.getElem?_cons_zero, List.getElem?_cons_succ, List.cons_append, List.nil_append, Nat.sub_self, List.length_cons, List.length_nil, List.set_cons_zero, List.set_cons_succ, List.foldl_cons, List.foldl_nil, if_true, if_false, ite_true, ite_false, reduceCtorEq, Nat.reduceAdd, Nat.reduceSub, Nat.reduceLeDiff, Bool.not_true, Bool.not_false, Bool.false_eq_true, pick, List.filterMap_cons, List.filterMap_nil, e_is_couple_value hn h1 h2, decide_eq_true h]
theorem e_is_closed_couple (h1 : 1 ≤ n) (h2 : n ≤ 6) (h : p ∈ CP n R) : d_is_closed_couple [.sh (encF n R), .sh (encC p)] = yes := by
  obtain ⟨a, b, _⟩ := mem_CP.mp h
  simp only [q_is_closed_couple, b_is_closed_couple, runD, seqD, ifD, setD, asgD, parD, par3D, setV, extD, appD, ownAt, vD, vA, oA, kA, fzA, bin, tB, tNot, tAnd, tOr, nA, andA, orA, ifA, chA, a0, aC, b0, bC, cal, calK, isA, is2A, slA, o0, oI, ixL, itS, itZ, itE, itE2, reprL, mulOwn, gN, g0, lamA, xO, sNil, sRet, sEx, sErr, sBk, sCt, sShare, bind_ret, bind_err, slA0, slAp, slAf, slAs, slD0, slDo, slDs, calling, toB, toD, toS, toI, frz, dataA, allS, mkTup, mkLst, itemsL, itemsT, share, share1, tupG, consG, List.append_nil, List.replicate, List.getElem?_cons_zero, List.getElem?_cons_succ, List.cons_append, List.nil_append, Nat.sub_self, List.length_cons, List.length_nil, List.set_cons_zero, List.set_cons_succ, List.foldl_cons, List.foldl_nil, if_true, if_false, ite_true, ite_false, reduceCtorEq, Nat.reduceAdd, Nat.reduceSub, Nat.reduceLeDiff, Bool.not_true, Bool.not_false, Bool.false_eq_true, pick, List.filterMap_cons, List.filterMap_nil, e_want_relation h1 h2, e_is_couple_value (show n ≤ 1000 by omega) a b, decide_eq_true h]
/-- a full block -/
def FB (R : Nat → Nat → Bool) (p : List Nat × List Nat) : Bool := (!decide (p.1 = []) && !decide (p.2 = [])) && p.1.all fun a => p.2.all fun b => R a b
theorem e_is_block_value (hn : n ≤ 1000) (h : Lot n p.1) (h' : Lot n p.2) : d_is_block_value [.sh (encF n R), .sh (encC p)] = .ret (.sh (.bool (FB R p))) := by
  have l0 : ∀ a, a ∈ p.1 → c_is_block_value_0 [.sh (encF n R), .sh (encC p), .no, .sh (iD a)] = .ret (.own (p.2.map fun b => .bool (R a b))) := fun a ha => by
    refine lcD_eq (ds := p.2.map iD) (by simp only [runD, seqD, ifD, setD, asgD, parD, par3D, setV, extD, appD, ownAt, vD, vA, oA, kA, fzA, bin, tB, tNot, tAnd, tOr, nA, andA, orA, ifA, chA, a0, aC, b0, bC, cal, calK, isA, is2A, slA, o0, oI, ixL, itS, itZ, itE, itE2, reprL, mulOwn, gN, g0, lamA, xO, sNil, sRet, sEx, sErr, sBk, sCt, sShare, bind_ret, bind_err, slA0, slAp, slAf, slAs, slD0, slDo, slDs, calling, toB, toD, toS, toI, frz, dataA, allS, mkTup, mkLst, itemsL, itemsT, share, share1, tupG, consG, List.append_nil, List.replicate, List.getElem?_cons_zero, List.getElem?_cons_succ, List.cons_append, List.nil_append, Nat.sub_self, List.length_cons, List.length_nil, List.set_cons_zero, List.set_cons_succ, List.foldl_cons, List.foldl_nil, if_true, if_false, ite_true, ite_false, reduceCtorEq, Nat.reduceAdd, Nat.reduceSub, Nat.reduceLeDiff, Bool.not_true, Bool.not_false, Bool.false_eq_true, pick, List.filterMap_cons, List.filterMap_nil, ix_C1, items_T]) rfl (lcN1 (e := iD) _ p.2 fun b hb => ?_)
    simp only [runD, seqD, ifD, setD, asgD, parD, par3D, setV, extD, appD, ownAt, vD, vA, oA, kA, fzA, bin, tB, tNot, tAnd, tOr, nA, andA, orA, ifA, chA, a0, aC, b0, bC, cal, calK, isA, is2A, slA, o0, oI, ixL, itS, itZ, itE, itE2, reprL, mulOwn, gN, g0, lamA, xO, sNil, sRet, sEx, sErr, sBk, sCt, sShare, bind_ret, bind_err, slA0, slAp, slAf, slAs, slD0, slDo, slDs, calling, toB, toD, toS, toI, frz, dataA, allS, mkTup, mkLst, itemsL, itemsT, share, share1, tupG, consG, List.append_nil, List.replicate, List.getElem?_cons_zero, List.getElem?_cons_succ, List.cons_append, List.nil_append, Nat.sub_self, List.length_cons, List.length_nil, List.set_cons_zero, List.set_cons_succ, List.foldl_cons, List.foldl_nil, if_true, if_false, ite_true, ite_false, reduceCtorEq, Nat.reduceAdd, Nat.reduceSub, Nat.reduceLeDiff, Bool.not_true, Bool.not_false, Bool.false_eq_true, pick, List.filterMap_cons, List.filterMap_nil, ix_F (h.2 a ha), mem_F (h'.2 b hb), id]
  have l1 : c_is_block_value_1 [.sh (encF n R), .sh (encC p), .no, .no] = .ret (.own (p.1.map fun a => .bool (p.2.all fun b => R a b))) := by
    refine lcD_eq (ds := p.1.map iD) (by simp only [runD, seqD, ifD, setD, asgD, parD, par3D, setV, extD, appD, ownAt, vD, vA, oA, kA, fzA, bin, tB, tNot, tAnd, tOr, nA, andA, orA, ifA, chA, a0, aC, b0, bC, cal, calK, isA, is2A, slA, o0, oI, ixL, itS, itZ, itE, itE2, reprL, mulOwn, gN, g0, lamA, xO, sNil, sRet, sEx, sErr, sBk, sCt, sShare, bind_ret, bind_err, slA0, slAp, slAf, slAs, slD0, slDo, slDs, calling, toB, toD, toS, toI, frz, dataA, allS, mkTup, mkLst, itemsL, itemsT, share, share1, tupG, consG, List.append_nil, List.replicate, List.getElem?_cons_zero, List.getElem?_cons_succ, List.cons_append, List.nil_append, Nat.sub_self, List.length_cons, List.length_nil, List.set_cons_zero, List.set_cons_succ, List.foldl_cons, List.foldl_nil, if_true, if_false, ite_true, ite_false, reduceCtorEq, Nat.reduceAdd, Nat.reduceSub, Nat.reduceLeDiff, Bool.not_true, Bool.not_false, Bool.false_eq_true, pick, List.filterMap_cons, List.filterMap_nil, ix_C0, items_T]) rfl (lcN1 (e := iD) _ p.1 fun a ha => ?_)
    simp only [runD, seqD, ifD, setD, asgD, parD, par3D, setV, extD, appD, ownAt, vD, vA, oA, kA, fzA, bin, tB, tNot, tAnd, tOr, nA, andA, orA, ifA, chA, a0, aC, b0, bC, cal, calK, isA, is2A, slA, o0, oI, ixL, itS, itZ, itE, itE2, reprL, mulOwn, gN, g0, lamA, xO, sNil, sRet, sEx, sErr, sBk, sCt, sShare, bind_ret, bind_err, slA0, slAp, slAf, slAs, slD0, slDo, slDs, calling, toB, toD, toS, toI, frz, dataA, allS, mkTup, mkLst, itemsL, itemsT, share, share1, tupG, consG, List.append_nil, List.replicate, List.getElem?_cons_zero, List.getElem?_cons_succ, List.cons_append, List.nil_append, Nat.sub_self, List.length_cons, List.length_nil, List.set_cons_zero, List.set_cons_succ, List.foldl_cons, List.foldl_nil, if_true, if_false, ite_true, ite_false, reduceCtorEq, Nat.reduceAdd, Nat.reduceSub, Nat.reduceLeDiff, Bool.not_true, Bool.not_false, Bool.false_eq_true, pick, List.filterMap_cons, List.filterMap_nil, l0 a ha, all_map]
  have z0 : (0 : Nat) ≤ 4000 := by omega
  unfold FB
  cases e1 : decide (p.1 = []) <;> cases e2 : decide (p.2 = []) <;> simp only [q_is_block_value, b_is_block_value, runD, seqD, ifD, setD, asgD, parD, par3D, setV, extD, appD, ownAt, vD, vA, oA, kA, fzA, bin, tB, tNot, tAnd, tOr, nA, andA, orA, ifA, chA, a0, aC, b0, bC, cal, calK, isA, is2A, slA, o0, oI, ixL, itS, itZ, itE, itE2, reprL, mulOwn, gN, g0, lamA, xO, sNil, sRet, sEx, sErr, sBk, sCt, sShare, bind_ret, bind_err, slA0, slAp, slAf, slAs, slD0, slDo, slDs, calling, toB, toD, toS, toI, frz, dataA, allS, mkTup, mkLst, itemsL, itemsT, share, share1, tupG, consG, List.append_nil, List.replicate, List.getElem?_cons_zero, List.getElem?_cons_succ, List.cons_append, List.nil_append, Nat.sub_self, List.length_cons, List.length_nil, List.set_cons_zero, List.set_cons_succ, List.foldl_cons, List.foldl_nil, if_true, if_false, ite_true, ite_false, reduceCtorEq, Nat.reduceAdd, Nat.reduceSub, Nat.reduceLeDiff, Bool.not_true, Bool.not_false, Bool.false_eq_true, pick, List.filterMap_cons, List.filterMap_nil, z0, len_F, e_are_two_lots h h', ix_C0, ix_C1, encT_nil, eq_TT, e1, e2, l1, all_map, Bool.and_true, Bool.true_and, Bool.false_and, Bool.and_false]
theorem e_is_greatest_block (h1 : 1 ≤ n) (h2 : n ≤ 6) (h : Lot n p.1) (h' : Lot n p.2) : d_is_greatest_block [.sh (encF n R), .sh (encC p)] = .ret (.sh (.bool (FB R p && decide (p ∈ CP n R)))) := by
  cases e : FB R p <;> simp only [q_is_greatest_block, b_is_greatest_block, runD, seqD, ifD, setD, asgD, parD, par3D, setV, extD, appD, ownAt, vD, vA, oA, kA, fzA, bin, tB, tNot, tAnd, tOr, nA, andA, orA, ifA, chA, a0, aC, b0, bC, cal, calK, isA, is2A, slA, o0, oI, ixL, itS, itZ, itE, itE2, reprL, mulOwn, gN, g0, lamA, xO, sNil, sRet, sEx, sErr, sBk, sCt, sShare, bind_ret, bind_err, slA0, slAp, slAf, slAs, slD0, slDo, slDs, calling, toB, toD, toS, toI, frz, dataA, allS, mkTup, mkLst, itemsL, itemsT, share, share1, tupG, consG, List.append_nil, List.replicate, List.getElem?_cons_zero, List.getElem?_cons_succ, List.cons_append, List.nil_append, Nat.sub_self, List.length_cons, List.length_nil, List.set_cons_zero, List.set_cons_succ, List.foldl_cons, List.foldl_nil, if_true, if_false, ite_true, ite_false, reduceCtorEq, Nat.reduceAdd, Nat.reduceSub, Nat.reduceLeDiff, Bool.not_true, Bool.not_false, Bool.false_eq_true, pick, List.filterMap_cons, List.filterMap_nil, e_want_relation h1 h2, e_is_block_value (show n ≤ 1000 by omega) h h', e, e_is_couple_value (show n ≤ 1000 by omega) h h', Bool.true_and, Bool.false_and]
end
end Mf
end
section
set_option Elab.async false
set_option linter.all false
set_option autoImplicit false
set_option maxRecDepth 100000
/-! E4: sums, greatest numbers, slices, pairs. -/
namespace Mf
open PySem Dn
open Classical

theorem slice1 {ds : List PyData} : slD (.list ds) (some 1) none = .ret (.own (ds.drop 1)) := by
  show T.ret (AV.own (cutD ds (some 1) none)) = _
  rw [cut1]
theorem slice1t {ds : List PyData} : slD (.tuple ds) (some 1) none = .ret (.sh (.tuple (ds.drop 1))) := by
  show T.ret (AV.sh (.tuple (cutD ds (some 1) none))) = _
  rw [cut1]
theorem sum_N {l : List Nat} : sumD [.list (l.map iD)] = .ret (.sh (iD l.sum)) := by
  show optT (intsOf (l.map iD)) _ = _
  rw [ints_iD]
  show T.ret (AV.sh (.int (l.map fun n : Nat => (n : Int)).sum)) = _
  congr 3
  induction l with
  | nil => rfl
  | cons a l ih => rw [List.map_cons, List.sum_cons, List.sum_cons, ih]; omega
theorem mul_iD {a b : Nat} (h : a < 2 ^ 64) : mulX (iD a) (iD b) = .ret (.sh (iD (a * b))) := by
  rw [show mulX (iD a) (iD b) = .ret (.sh (.int ((a : Int) * (b : Int)))) from mul_int (.inl ⟨by omega, by omega⟩)]
  rw [← Int.natCast_mul]
/-- max of a list of numbers -/
theorem max_N (a : Nat) (l : List Nat) : ∃ w, bestD PySem.W.maxD [.list (iD a :: l.map iD)] = .ret (.sh (iD w)) ∧ w = (l.foldl max a) := by
  have k1 : alikeB (iD a :: l.map iD) = true := by
    unfold alikeB
    rw [List.all_eq_true]
    intro x hx
    rw [List.all_eq_true]
    intro y hy
    have ex : ∀ z ∈ iD a :: l.map iD, ∃ c, z = iD c := fun z hz => by
      rcases List.mem_cons.mp hz with rfl | hz
      · exact ⟨_, rfl⟩
      · obtain ⟨c, _, rfl⟩ := List.mem_map.mp hz
        exact ⟨c, rfl⟩
    obtain ⟨c, rfl⟩ := ex x hx
    obtain ⟨d, rfl⟩ := ex y hy
    exact alike_iD c d
  have ok : ∀ z ∈ iD a :: l.map iD, Ok 0 z := fun z hz => by
    rcases List.mem_cons.mp hz with rfl | hz
    · exact Ok.int _
    · obtain ⟨c, _, rfl⟩ := List.mem_map.mp hz
      exact Ok.int _
  have k2 : ((iD a :: l.map iD).all fun e => !isNone e) = true := by
    rw [List.all_eq_true]
    intro z hz
    rcases List.mem_cons.mp hz with rfl | hz
    · rfl
    · obtain ⟨c, _, rfl⟩ := List.mem_map.mp hz
      rfl
  have k3 : PyData.canLayAll0 (iD a :: l.map iD) = true := canLayAll_iff.mpr fun z hz => (ok z hz).2.1
  have k4 : PyData.depthAll (iD a :: l.map iD) ≤ 64 := depthAll_le.mpr fun z hz => Nat.le_trans (ok z hz).2.2 (by decide)
  refine ⟨l.foldl max a, ?_, rfl⟩
  show (if _ then T.ret (AV.sh (PySem.W.maxD (iD a) (l.map iD))) else .err) = _
  rw [k1, k2, k3, decide_eq_true k4, if_pos (show ((true && true) && (true && true)) = true from rfl)]
  have e : PySem.W.maxD (iD a) (l.map iD) = iD (l.foldl max a) := by
    have e1 : l.map iD = (l.map fun n : Nat => (n : Int)).map PyData.int := by rw [List.map_map]; rfl
    rw [e1]
    show PySem.W.maxD (.int (a : Int)) _ = _
    rw [PySem.W.maxD_ints]
    clear k1 ok k2 k3 k4 e1
    induction l generalizing a with
    | nil => rfl
    | cons b l ih =>
      rw [List.map_cons, List.foldl_cons, List.foldl_cons]
      have e2 : max (a : Int) (b : Int) = ((max a b : Nat) : Int) := by omega
      rw [e2]
      exact ih (max a b)
  rw [e]
/-- two lists zipped, made of one -/
theorem zip_maps {α : Type} (f g : α → PyData) (l : List α) : zipL (l.map f) (l.map g) = l.map fun a => PyData.tuple [f a, g a] := by
  unfold zipL
  rw [List.zipWith_map_left, List.zipWith_map_right]
  induction l with
  | nil => rfl
  | cons a l ih => rw [List.zipWith_cons_cons, ih]; rfl
theorem zip_ll {xs ys : List PyData} : zipD [.list xs, .list ys] = .ret (zipL xs ys) := rfl
theorem map_nil_iff {α β : Type} {f : α → β} {l : List α} : l.map f = [] ↔ l = [] := by simp
theorem itR_hold {f : Dn.Env → T PyData} {ρ : Dn.Env} {p : List PyData → Prop} (h : Hold (f ρ) fun d => ∃ k : Nat, d = iD k ∧ k ≤ 100000 ∧ p ((List.range k).map iD)) : Hold (itR f ρ) p := by
  refine Hold.bind' (h.mono fun d ⟨k, e, hk, hp⟩ => ?_)
  subst e
  refine hold_of (a := (List.range k).map iD) ?_ hp
  exact (itR_n (ρ := []) (f := fun _ => .ret (iD k)) rfl hk)
/-! ### rows that are drawn -/
theorem eq_bool {a b : Bool} : eqA (.bool a) (.bool b) = .ret (.sh (.bool (a == b))) := by
  cases a <;> cases b <;> rfl
theorem lot_sub {n : Nat} {l : List Nat} (h : l.Sublist (List.range n)) : Lot n l := ⟨List.Pairwise.sublist h List.pairwise_lt_range, fun a ha => List.mem_range.mp (h.subset ha)⟩
/-- a row by a test that says something -/
theorem row_draw {n v w : Nat} {t : Dn.Env → T Bool} {ρ : Dn.Env} (hn : n ≤ 1000) (h2 : slotD ρ w = .ret (iD n)) (h6 : [v].all (notOwn ρ) = true) (hl : v < ρ.length) (ht : ∀ a, a < n → Hold (t (ρ.set v (.sh (iD a)))) fun _ => True) :
    Hold ((lcD [v] (itR (vD w)) (gN v) t (vA v) ρ).bind toS) fun y => ∃ r, y = encN r ∧ Lot n r := by
  refine Hold.bind' (lcD_hold (itR_n h2 (by omega)) h6 ((lcH (fun a y => y = iD a) (List.range n) (fun a ha => ht a (List.mem_range.mp ha)) fun a _ => ?_).mono ?_))
  · have q : slotA (ρ.set v (.sh (iD a))) v = .ret (.sh (iD a)) := by
      unfold slotA
      rw [List.getElem?_set_self hl]
    show Hold ((slotA (ρ.set v (.sh (iD a))) v).bind toS) _
    rw [q]
    rfl
  · rintro ys ⟨l', h1, h3⟩
    rw [all2_iD h3]
    exact ⟨l', rfl, lot_sub h1⟩
theorem all2_lots {α : Type} {n : Nat} {l : List α} {ys : List PyData} (h : All2 (fun _ y => ∃ r, y = encN r ∧ Lot n r) l ys) : ∃ L : List (List Nat), ys = L.map encN ∧ L.length = l.length ∧ ∀ r ∈ L, Lot n r := by
  induction h with
  | nil => exact ⟨[], rfl, rfl, fun r h => absurd h List.not_mem_nil⟩
  | cons h1 _ ih =>
    obtain ⟨r, rfl, hr⟩ := h1
    obtain ⟨L, rfl, h2, h3⟩ := ih
    exact ⟨r :: L, rfl, by rw [List.length_cons, List.length_cons, h2], fun q hq => by
      rcases List.mem_cons.mp hq with rfl | hq
      · exact hr
      · exact h3 q hq⟩
/-- rows, one for each thing -/
theorem rows_draw {n v w : Nat} {f : Dn.Env → T AV} {ρ : Dn.Env} (hn : n ≤ 1000) (h2 : slotD ρ w = .ret (iD n)) (h6 : [v].all (notOwn ρ) = true) (hf : ∀ a, a < n → Hold ((f (ρ.set v (.sh (iD a)))).bind toS) fun y => ∃ r, y = encN r ∧ Lot n r) :
    Hold (lcD [v] (itR (vD w)) (gN v) lcTest0 f ρ) fun av => ∃ L : List (List Nat), av = .own (L.map encN) ∧ L.length = n ∧ ∀ r ∈ L, Lot n r := by
  refine lcD_hold (itR_n h2 (by omega)) h6 ((lcH1 (fun _ y => ∃ r, y = encN r ∧ Lot n r) (List.range n) fun a ha => hf a (List.mem_range.mp ha)).mono fun ys hys => ?_)
  obtain ⟨L, rfl, h1, h3⟩ := all2_lots hys
  exact ⟨L, rfl, by rw [h1, List.length_range], h3⟩
theorem rel_of_rows {n : Nat} {L : List (List Nat)} (hl : L.length = n) (h : ∀ r ∈ L, Lot n r) : ∃ R, PyData.tuple (L.map encT) = encF n R := by
  refine ⟨fun i j => decide (j ∈ L.getD i []), ?_⟩
  unfold encF
  congr 1
  rw [map_getD' encT hl]
  refine List.map_congr_left fun i hi => ?_
  congr 1
  have hi' : i < L.length := by rw [hl]; exact List.mem_range.mp hi
  have hm : L.getD i [] ∈ L := by
    rw [List.getD_eq_getElem?_getD, List.getElem?_eq_getElem hi']
    exact List.getElem_mem hi'
  exact lot_eq_filter (h _ hm)
theorem lot_sort {n : Nat} {l : List Nat} (hn : l.Nodup) (h : ∀ a ∈ l, a < n) : Lot n (sortL l) := by
  have p := sortL_perm l
  refine ⟨?_, fun a ha => h a (p.mem_iff.mp ha)⟩
  have h1 := sortL_pw l
  have h2 : (sortL l).Nodup := p.nodup_iff.mpr hn
  exact (h1.and h2).imp fun {a b} ⟨x, y⟩ => by omega
end Mf
end
section
set_option Elab.async false
set_option linter.all false
set_option autoImplicit false
set_option maxRecDepth 100000
/-! K3 (k71): the other functions. -/
namespace Mf
open PySem Dn Wk
open Classical

section
variable {n : Nat} {R : Nat → Nat → Bool} {l m : List Nat} {p q : List Nat × List Nat}
def cap (l m : List Nat) : List Nat := l.filter fun x => decide (x ∈ m)
theorem lot_cap (h : Lot n l) : Lot n (cap l m) := ⟨List.Pairwise.filter _ h.1, fun a ha => h.2 a (List.mem_filter.mp ha).1⟩
theorem mem_cap {a : Nat} : a ∈ cap l m ↔ a ∈ l ∧ a ∈ m := by
  unfold cap
  rw [List.mem_filter, decide_eq_true_iff]
/-- the couple of what two couples share ahead; behind -/
noncomputable def metC (n : Nat) (R : Nat → Nat → Bool) (p q : List Nat × List Nat) : List Nat × List Nat := (cap p.1 q.1, shr n R (cap p.1 q.1))
noncomputable def joinC (n : Nat) (R : Nat → Nat → Bool) (p q : List Nat × List Nat) : List Nat × List Nat := (stn n R (cap p.2 q.2), cap p.2 q.2)
theorem met_closed (hp : p ∈ CP n R) (hq : q ∈ CP n R) : stn n R (shr n R (cap p.1 q.1)) = cap p.1 q.1 := by
  obtain ⟨a1, a2, a3, a4⟩ := mem_CP.mp hp
  obtain ⟨b1, b2, b3, b4⟩ := mem_CP.mp hq
  refine (lot_stn n R _).uniq (lot_cap a1) fun x => ⟨fun hx => ?_, fun hx => in_stn (lot_cap a1) x hx⟩
  have hx := mem_stn.mp hx
  refine mem_cap.mpr ⟨?_, ?_⟩
  · rw [← a3, mem_stn]
    refine ⟨hx.1, fun b hb => hx.2 b ?_⟩
    rw [← a4] at hb
    exact mem_shr.mpr ⟨(mem_shr.mp hb).1, fun a ha => (mem_shr.mp hb).2 a (mem_cap.mp ha).1⟩
  · rw [← b3, mem_stn]
    refine ⟨hx.1, fun b hb => hx.2 b ?_⟩
    rw [← b4] at hb
    exact mem_shr.mpr ⟨(mem_shr.mp hb).1, fun a ha => (mem_shr.mp hb).2 a (mem_cap.mp ha).2⟩
theorem join_closed (hp : p ∈ CP n R) (hq : q ∈ CP n R) : shr n R (stn n R (cap p.2 q.2)) = cap p.2 q.2 := by
  obtain ⟨a1, a2, a3, a4⟩ := mem_CP.mp hp
  obtain ⟨b1, b2, b3, b4⟩ := mem_CP.mp hq
  refine (lot_shr n R _).uniq (lot_cap a2) fun x => ⟨fun hx => ?_, fun hx => in_shr (lot_cap a2) x hx⟩
  have hx := mem_shr.mp hx
  refine mem_cap.mpr ⟨?_, ?_⟩
  · rw [← a4, mem_shr]
    refine ⟨hx.1, fun b hb => hx.2 b ?_⟩
    rw [← a3] at hb
    exact mem_stn.mpr ⟨(mem_stn.mp hb).1, fun a ha => (mem_stn.mp hb).2 a (mem_cap.mp ha).1⟩
  · rw [← b4, mem_shr]
    refine ⟨hx.1, fun b hb => hx.2 b ?_⟩
    rw [← b3] at hb
    exact mem_stn.mpr ⟨(mem_stn.mp hb).1, fun a ha => (mem_stn.mp hb).2 a (mem_cap.mp ha).2⟩
theorem e_couples_met (h1 : 1 ≤ n) (h2 : n ≤ 6) (hp : p ∈ CP n R) (hq : q ∈ CP n R) : d_couples_met [.sh (encF n R), .sh (encC p), .sh (encC q)] = .ret (.sh (encC (metC n R p q))) := by
  obtain ⟨a1, a2, a3, a4⟩ := mem_CP.mp hp
  have l1 : c_couples_met_0 [.sh (encF n R), .sh (encC p), .sh (encC q), .no] = .ret (.own ((cap p.1 q.1).map iD)) := by
    refine lcD_eq (ds := p.1.map iD) (by simp only [runD, seqD, ifD, setD, asgD, parD, par3D, setV, extD, appD, ownAt, vD, vA, oA, kA, fzA, bin, tB, tNot, tAnd, tOr, nA, andA, orA, ifA, chA, a0, aC, b0, bC, cal, calK, isA, is2A, slA, o0, oI, ixL, itS, itZ, itE, itE2, reprL, mulOwn, gN, g0, lamA, xO, sNil, sRet, sEx, sErr, sBk, sCt, sShare, bind_ret, bind_err, slA0, slAp, slAf, slAs, slD0, slDo, slDs, calling, toB, toD, toS, toI, frz, dataA, allS, mkTup, mkLst, itemsL, itemsT, share, share1, tupG, consG, List.append_nil, List.replicate, List.getElem?_cons_zero, List.getElem?_cons_succ, List.cons_append, List.nil_append, Nat.sub_self, List.length_cons, List.length_nil, List.set_cons_zero, List.set_cons_succ, List.foldl_cons, List.foldl_nil, if_true, if_false, ite_true, ite_false, reduceCtorEq, Nat.reduceAdd, Nat.reduceSub, Nat.reduceLeDiff, Bool.not_true, Bool.not_false, Bool.false_eq_true, pick, List.filterMap_cons, List.filterMap_nil, ix_C0, items_T]) rfl (lcN (e := iD) _ iD p.1 (fun a _ => ?_) fun a _ _ => rfl)
    simp only [runD, seqD, ifD, setD, asgD, parD, par3D, setV, extD, appD, ownAt, vD, vA, oA, kA, fzA, bin, tB, tNot, tAnd, tOr, nA, andA, orA, ifA, chA, a0, aC, b0, bC, cal, calK, isA, is2A, slA, o0, oI, ixL, itS, itZ, itE, itE2, reprL, mulOwn, gN, g0, lamA, xO, sNil, sRet, sEx, sErr, sBk, sCt, sShare, bind_ret, bind_err, slA0, slAp, slAf, slAs, slD0, slDo, slDs, calling, toB, toD, toS, toI, frz, dataA, allS, mkTup, mkLst, itemsL, itemsT, share, share1, tupG, consG, List.append_nil, List.replicate, List.getElem?_cons_zero, List.getElem?_cons_succ, List.cons_append, List.nil_append, Nat.sub_self, List.length_cons, List.length_nil, List.set_cons_zero, List.set_cons_succ, List.foldl_cons, List.foldl_nil, if_true, if_false, ite_true, ite_false, reduceCtorEq, Nat.reduceAdd, Nat.reduceSub, Nat.reduceLeDiff, Bool.not_true, Bool.not_false, Bool.false_eq_true, pick, List.filterMap_cons, List.filterMap_nil, ix_C0, mem_T, id]
  have n1 : n ≤ 1000 := by omega
  simp only [q_couples_met, b_couples_met, runD, seqD, ifD, setD, asgD, parD, par3D, setV, extD, appD, ownAt, vD, vA, oA, kA, fzA, bin, tB, tNot, tAnd, tOr, nA, andA, orA, ifA, chA, a0, aC, b0, bC, cal, calK, isA, is2A, slA, o0, oI, ixL, itS, itZ, itE, itE2, reprL, mulOwn, gN, g0, lamA, xO, sNil, sRet, sEx, sErr, sBk, sCt, sShare, bind_ret, bind_err, slA0, slAp, slAf, slAs, slD0, slDo, slDs, calling, toB, toD, toS, toI, frz, dataA, allS, mkTup, mkLst, itemsL, itemsT, share, share1, tupG, consG, List.append_nil, List.replicate, List.getElem?_cons_zero, List.getElem?_cons_succ, List.cons_append, List.nil_append, Nat.sub_self, List.length_cons, List.length_nil, List.set_cons_zero, List.set_cons_succ, List.foldl_cons, List.foldl_nil, if_true, if_false, ite_true, ite_false, reduceCtorEq, Nat.reduceAdd, Nat.reduceSub, Nat.reduceLeDiff, Bool.not_true, Bool.not_false, Bool.false_eq_true, pick, List.filterMap_cons, List.filterMap_nil, e_want_relation h1 h2, e_want_couple n1 hp, e_want_couple n1 hq, l1, tup_N, e_couple_from n1 (lot_cap a1)]
  rw [met_closed hp hq]
  rfl
theorem e_couples_joined (h1 : 1 ≤ n) (h2 : n ≤ 6) (hp : p ∈ CP n R) (hq : q ∈ CP n R) : d_couples_joined [.sh (encF n R), .sh (encC p), .sh (encC q)] = .ret (.sh (encC (joinC n R p q))) := by
  obtain ⟨a1, a2, a3, a4⟩ := mem_CP.mp hp
  have l1 : c_couples_joined_0 [.sh (encF n R), .sh (encC p), .sh (encC q), .no] = .ret (.own ((cap p.2 q.2).map iD)) := by
    refine lcD_eq (ds := p.2.map iD) (by simp only [runD, seqD, ifD, setD, asgD, parD, par3D, setV, extD, appD, ownAt, vD, vA, oA, kA, fzA, bin, tB, tNot, tAnd, tOr, nA, andA, orA, ifA, chA, a0, aC, b0, bC, cal, calK, isA, is2A, slA, o0, oI, ixL, itS, itZ, itE, itE2, reprL, mulOwn, gN, g0, lamA, xO, sNil, sRet, sEx, sErr, sBk, sCt, sShare, bind_ret, bind_err, slA0, slAp, slAf, slAs, slD0, slDo, slDs, calling, toB, toD, toS, toI, frz, dataA, allS, mkTup, mkLst, itemsL, itemsT, share, share1, tupG, consG, List.append_nil, List.replicate, List.getElem?_cons_zero, List.getElem?_cons_succ, List.cons_append, List.nil_append, Nat.sub_self, List.length_cons, List.length_nil, List.set_cons_zero, List.set_cons_succ, List.foldl_cons, List.foldl_nil, if_true, if_false, ite_true, ite_false, reduceCtorEq, Nat.reduceAdd, Nat.reduceSub, Nat.reduceLeDiff, Bool.not_true, Bool.not_false, Bool.false_eq_true, pick, List.filterMap_cons, List.filterMap_nil, ix_C1, items_T]) rfl (lcN (e := iD) _ iD p.2 (fun a _ => ?_) fun a _ _ => rfl)
    simp only [runD, seqD, ifD, setD, asgD, parD, par3D, setV, extD, appD, ownAt, vD, vA, oA, kA, fzA, bin, tB, tNot, tAnd, tOr, nA, andA, orA, ifA, chA, a0, aC, b0, bC, cal, calK, isA, is2A, slA, o0, oI, ixL, itS, itZ, itE, itE2, reprL, mulOwn, gN, g0, lamA, xO, sNil, sRet, sEx, sErr, sBk, sCt, sShare, bind_ret, bind_err, slA0, slAp, slAf, slAs, slD0, slDo, slDs, calling, toB, toD, toS, toI, frz, dataA, allS, mkTup, mkLst, itemsL, itemsT, share, share1, tupG, consG, List.append_nil, List.replicate, List.getElem?_cons_zero, List.getElem?_cons_succ, List.cons_append, List.nil_append, Nat.sub_self, List.length_cons, List.length_nil, List.set_cons_zero, List.set_cons_succ, List.foldl_cons, List.foldl_nil, if_true, if_false, ite_true, ite_false, reduceCtorEq, Nat.reduceAdd, Nat.reduceSub, Nat.reduceLeDiff, Bool.not_true, Bool.not_false, Bool.false_eq_true, pick, List.filterMap_cons, List.filterMap_nil, ix_C1, mem_T, id]
  have n1 : n ≤ 1000 := by omega
  simp only [q_couples_joined, b_couples_joined, runD, seqD, ifD, setD, asgD, parD, par3D, setV, extD, appD, ownAt, vD, vA, oA, kA, fzA, bin, tB, tNot, tAnd, tOr, nA, andA, orA, ifA, chA, a0, aC, b0, bC, cal, calK, isA, is2A, slA, o0, oI, ixL, itS, itZ, itE, itE2, reprL, mulOwn, gN, g0, lamA, xO, sNil, sRet, sEx, sErr, sBk, sCt, sShare, bind_ret, bind_err, slA0, slAp, slAf, slAs, slD0, slDo, slDs, calling, toB, toD, toS, toI, frz, dataA, allS, mkTup, mkLst, itemsL, itemsT, share, share1, tupG, consG, List.append_nil, List.replicate, List.getElem?_cons_zero, List.getElem?_cons_succ, List.cons_append, List.nil_append, Nat.sub_self, List.length_cons, List.length_nil, List.set_cons_zero, List.set_cons_succ, List.foldl_cons, List.foldl_nil, if_true, if_false, ite_true, ite_false, reduceCtorEq, Nat.reduceAdd, Nat.reduceSub, Nat.reduceLeDiff, Bool.not_true, Bool.not_false, Bool.false_eq_true, pick, List.filterMap_cons, List.filterMap_nil, e_want_relation h1 h2, e_want_couple n1 hp, e_want_couple n1 hq, l1, tup_N, e_couple_to n1 (lot_cap a2)]
  rw [join_closed hp hq]
  rfl
/-! ### how many full blocks -/
def wgt (n : Nat) (R : Nat → Nat → Bool) (l : List Nat) : Nat := 2 ^ (shr n R l).length - 1
noncomputable def MB (n : Nat) (R : Nat → Nat → Bool) : Nat := (((LL n).filter fun l => !decide (l = [])).map (wgt n R)).sum
theorem rest_perm (n : Nat) : ((subs n).drop 1).Perm ((LL n).filter fun l => !decide (l = [])) := by
  have h1 := inOrder_perm (subs n)
  obtain ⟨r, e⟩ := head_subs n
  have e2 := LL_head n
  unfold LL at e2 ⊢
  rw [e2] at h1
  rw [e] at h1
  have e3 : (subs n).drop 1 = r := by rw [e]; rfl
  rw [e3]
  rw [e] at e2 ⊢
  exact (List.Perm.cons_inv h1).symm
theorem wgt_le (h : n ≤ 6) : wgt n R l + 1 ≤ 64 := by
  unfold wgt
  have h1 := (lot_shr n R l).len
  have h2 := len_64 (Nat.le_trans h1 h)
  have h3 : 0 < 2 ^ (shr n R l).length := Nat.pow_pos (by decide)
  omega
theorem e_many_full_blocks (h1 : 1 ≤ n) (h2 : n ≤ 6) : d_many_full_blocks [.sh (encF n R)] = .ret (.sh (iD (MB n R))) := by
  have step : ∀ (s : Nat) (l : List Nat), Lot n l → lb_many_full_blocks_0 [.sh (encF n R), .sh (iD s), .sh (encT l)] = .ret (.nx [.sh (encF n R), .sh (iD (s + wgt n R l)), .sh (encT l)]) := fun s l hl => by
    have hk := (lot_shr n R l).len
    have e1 : addD (iD s) (iD (2 ^ (shr n R l).length)) = .ret (.sh (iD (s + 2 ^ (shr n R l).length))) := int_iD _ _
    have e2 : subD (iD (s + 2 ^ (shr n R l).length)) (.int 1) = .ret (.sh (iD (s + wgt n R l))) := by
      rw [sub1]
      unfold wgt
      have h3 : 0 < 2 ^ (shr n R l).length := Nat.pow_pos (by decide)
      congr 3
      omega
    simp only [lb_many_full_blocks_0, runD, seqD, ifD, setD, asgD, parD, par3D, setV, extD, appD, ownAt, vD, vA, oA, kA, fzA, bin, tB, tNot, tAnd, tOr, nA, andA, orA, ifA, chA, a0, aC, b0, bC, cal, calK, isA, is2A, slA, o0, oI, ixL, itS, itZ, itE, itE2, reprL, mulOwn, gN, g0, lamA, xO, sNil, sRet, sEx, sErr, sBk, sCt, sShare, bind_ret, bind_err, slA0, slAp, slAf, slAs, slD0, slDo, slDs, calling, toB, toD, toS, toI, frz, dataA, allS, mkTup, mkLst, itemsL, itemsT, share, share1, tupG, consG, List.append_nil, List.replicate, List.getElem?_cons_zero, List.getElem?_cons_succ, List.cons_append, List.nil_append, Nat.sub_self, List.length_cons, List.length_nil, List.set_cons_zero, List.set_cons_succ, List.foldl_cons, List.foldl_nil, if_true, if_false, ite_true, ite_false, reduceCtorEq, Nat.reduceAdd, Nat.reduceSub, Nat.reduceLeDiff, Bool.not_true, Bool.not_false, Bool.false_eq_true, pick, List.filterMap_cons, List.filterMap_nil, e_shared_by (show n ≤ 1000 by omega) hl, len_T, e_lots_of (show (shr n R l).length ≤ 6 by omega), len_l, List.length_map, len_subs, e1, e2]
  obtain ⟨ρ', e, x, rfl⟩ := forI (v := 2) (body := lb_many_full_blocks_0) (e := encT) (fun pre ρ => ∃ x, ρ = [.sh (encF n R), .sh (iD (pre.map (wgt n R)).sum), x]) ((subs n).drop 1) [.sh (encF n R), .sh (iD 0), .no] ⟨_, rfl⟩ (by
    rintro pre l suf _ e ⟨x, rfl⟩
    have hl : Lot n l := mem_subs.mp (List.mem_of_mem_drop (i := 1) (by rw [e]; simp))
    refine ⟨_, step _ l hl, .sh (encT l), ?_⟩
    rw [List.map_append, List.sum_append]
    simp)
  have fin : (((subs n).drop 1).map (wgt n R)).sum = MB n R := ((rest_perm n).map (wgt n R)).sum_nat
  rw [fin] at e
  have e0 : forD (itS (slA (oA (cal (calling 1 d_lots_of) (aC (cal lenD (bC (vD 0) (b0))) (a0)))) (oI (oA (kA (.int 1)))) (o0))) (gN 2) lb_many_full_blocks_0 [.sh (encF n R), .sh (.int 0), .no] = .ret (.nx [.sh (encF n R), .sh (iD (MB n R)), x]) := by
    unfold forD
    have e3 : itS (slA (oA (cal (calling 1 d_lots_of) (aC (cal lenD (bC (vD 0) (b0))) (a0)))) (oI (oA (kA (.int 1)))) (o0)) [.sh (encF n R), .sh (.int 0), .no] = .ret (((subs n).drop 1).map encT) := by
      simp only [runD, seqD, ifD, setD, asgD, parD, par3D, setV, extD, appD, ownAt, vD, vA, oA, kA, fzA, bin, tB, tNot, tAnd, tOr, nA, andA, orA, ifA, chA, a0, aC, b0, bC, cal, calK, isA, is2A, slA, o0, oI, ixL, itS, itZ, itE, itE2, reprL, mulOwn, gN, g0, lamA, xO, sNil, sRet, sEx, sErr, sBk, sCt, sShare, bind_ret, bind_err, slA0, slAp, slAf, slAs, slD0, slDo, slDs, calling, toB, toD, toS, toI, frz, dataA, allS, mkTup, mkLst, itemsL, itemsT, share, share1, tupG, consG, List.append_nil, List.replicate, List.getElem?_cons_zero, List.getElem?_cons_succ, List.cons_append, List.nil_append, Nat.sub_self, List.length_cons, List.length_nil, List.set_cons_zero, List.set_cons_succ, List.foldl_cons, List.foldl_nil, if_true, if_false, ite_true, ite_false, reduceCtorEq, Nat.reduceAdd, Nat.reduceSub, Nat.reduceLeDiff, Bool.not_true, Bool.not_false, Bool.false_eq_true, pick, List.filterMap_cons, List.filterMap_nil, len_F, e_lots_of h2, toI, slice1, List.map_drop]
    rw [e3, bind_ret]
    exact e
  simp only [q_many_full_blocks, b_many_full_blocks, runD, seqD, ifD, setD, asgD, parD, par3D, setV, extD, appD, ownAt, vD, vA, oA, kA, fzA, bin, tB, tNot, tAnd, tOr, nA, andA, orA, ifA, chA, a0, aC, b0, bC, cal, calK, isA, is2A, slA, o0, oI, ixL, itS, itZ, itE, itE2, reprL, mulOwn, gN, g0, lamA, xO, sNil, sRet, sEx, sErr, sBk, sCt, sShare, bind_ret, bind_err, slA0, slAp, slAf, slAs, slD0, slDo, slDs, calling, toB, toD, toS, toI, frz, dataA, allS, mkTup, mkLst, itemsL, itemsT, share, share1, tupG, consG, List.append_nil, List.replicate, List.getElem?_cons_zero, List.getElem?_cons_succ, List.cons_append, List.nil_append, Nat.sub_self, List.length_cons, List.length_nil, List.set_cons_zero, List.set_cons_succ, List.foldl_cons, List.foldl_nil, if_true, if_false, ite_true, ite_false, reduceCtorEq, Nat.reduceAdd, Nat.reduceSub, Nat.reduceLeDiff, Bool.not_true, Bool.not_false, Bool.false_eq_true, pick, List.filterMap_cons, List.filterMap_nil, e_want_relation h1 h2]
  rw [e0]
  rfl
/-! ### the widest one -/
noncomputable def WD (n : Nat) (R : Nat → Nat → Bool) : Nat := ((GB n R).map fun p => p.1.length * p.2.length).foldl max 0
noncomputable def BS (n : Nat) (R : Nat → Nat → Bool) : List (List Nat × List Nat) := (GB n R).filter fun p => decide (p.1.length * p.2.length = WD n R)
noncomputable def bestP (n : Nat) (R : Nat → Nat → Bool) : PyData := match BS n R with
  | [] => .none
  | p :: _ => encC p
theorem GB_lot (h : p ∈ GB n R) : Lot n p.1 ∧ Lot n p.2 := by
  obtain ⟨h, _⟩ := mem_GB.mp h
  obtain ⟨a, b, _⟩ := mem_CP.mp h
  exact ⟨a, b⟩
theorem small64 {a : Nat} (h : a ≤ 6) : a < 2 ^ 64 := by omega
theorem ne_LC {L : List (List Nat × List Nat)} : neA (.list (L.map encC)) (.list []) = .ret (.sh (.bool (!L.isEmpty))) := by
  have h : Ok 3 (.list (L.map encC)) := Ok.list fun x hx => by
    obtain ⟨p, _, rfl⟩ := List.mem_map.mp hx
    exact ok_encC p
  have h0 : Ok 3 (.list []) := Ok.list fun x hx => by cases hx
  rw [neA_d h h0]
  congr 4
  cases L with
  | nil => exact decide_eq_true rfl
  | cons p l => exact decide_eq_false (by intro z; cases z)
theorem e_widest_block (h1 : 1 ≤ n) (h2 : n ≤ 6) : d_widest_block [.sh (encF n R)] = .ret (.sh (bestP n R)) := by
  obtain ⟨w, e1, ew⟩ := max_N 0 ((GB n R).map fun p => p.1.length * p.2.length)
  have l0 : c_widest_block_0 [.sh (encF n R), .sh (.list ((GB n R).map encC)), .no, .no, .no, .no] = .ret (.own (((GB n R).map fun p => p.1.length * p.2.length).map iD)) := by
    rw [List.map_map]
    refine lcD_eq (ds := (GB n R).map encC) rfl rfl ((lcG (fun p => [.sh (encF n R), .sh (.list ((GB n R).map encC)), .no, .sh (encT p.1), .sh (encT p.2), .no]) (fun _ => true) (iD ∘ fun p => p.1.length * p.2.length) (GB n R) (fun p _ => rfl) (fun p _ => rfl) fun p hp _ => ?_).trans (by rw [List.filter_eq_self.mpr fun _ _ => rfl]))
    have := (GB_lot hp).1.len
    simp only [runD, seqD, ifD, setD, asgD, parD, par3D, setV, extD, appD, ownAt, vD, vA, oA, kA, fzA, bin, tB, tNot, tAnd, tOr, nA, andA, orA, ifA, chA, a0, aC, b0, bC, cal, calK, isA, is2A, slA, o0, oI, ixL, itS, itZ, itE, itE2, reprL, mulOwn, gN, g0, lamA, xO, sNil, sRet, sEx, sErr, sBk, sCt, sShare, bind_ret, bind_err, slA0, slAp, slAf, slAs, slD0, slDo, slDs, calling, toB, toD, toS, toI, frz, dataA, allS, mkTup, mkLst, itemsL, itemsT, share, share1, tupG, consG, List.append_nil, List.replicate, List.getElem?_cons_zero, List.getElem?_cons_succ, List.cons_append, List.nil_append, Nat.sub_self, List.length_cons, List.length_nil, List.set_cons_zero, List.set_cons_succ, List.foldl_cons, List.foldl_nil, if_true, if_false, ite_true, ite_false, reduceCtorEq, Nat.reduceAdd, Nat.reduceSub, Nat.reduceLeDiff, Bool.not_true, Bool.not_false, Bool.false_eq_true, pick, List.filterMap_cons, List.filterMap_nil, len_T, mul_iD (small64 (show p.1.length ≤ 6 by omega)), Function.comp]
  have l1 : c_widest_block_1 [.sh (encF n R), .sh (.list ((GB n R).map encC)), .sh (iD w), .no, .no, .no] = .ret (.own ((BS n R).map encC)) := by
    refine lcD_eq (ds := (GB n R).map encC) rfl rfl (lcG (fun p => [.sh (encF n R), .sh (.list ((GB n R).map encC)), .sh (iD w), .sh (encT p.1), .sh (encT p.2), .no]) (fun p => decide (p.1.length * p.2.length = WD n R)) encC (GB n R) (fun p _ => rfl) (fun p hp => ?_) fun p hp _ => rfl)
    have := (GB_lot hp).1.len
    simp only [runD, seqD, ifD, setD, asgD, parD, par3D, setV, extD, appD, ownAt, vD, vA, oA, kA, fzA, bin, tB, tNot, tAnd, tOr, nA, andA, orA, ifA, chA, a0, aC, b0, bC, cal, calK, isA, is2A, slA, o0, oI, ixL, itS, itZ, itE, itE2, reprL, mulOwn, gN, g0, lamA, xO, sNil, sRet, sEx, sErr, sBk, sCt, sShare, bind_ret, bind_err, slA0, slAp, slAf, slAs, slD0, slDo, slDs, calling, toB, toD, toS, toI, frz, dataA, allS, mkTup, mkLst, itemsL, itemsT, share, share1, tupG, consG, List.append_nil, List.replicate, List.getElem?_cons_zero, List.getElem?_cons_succ, List.cons_append, List.nil_append, Nat.sub_self, List.length_cons, List.length_nil, List.set_cons_zero, List.set_cons_succ, List.foldl_cons, List.foldl_nil, if_true, if_false, ite_true, ite_false, reduceCtorEq, Nat.reduceAdd, Nat.reduceSub, Nat.reduceLeDiff, Bool.not_true, Bool.not_false, Bool.false_eq_true, pick, List.filterMap_cons, List.filterMap_nil, len_T, mul_iD (small64 (show p.1.length ≤ 6 by omega)), eq_len, ew]
    rfl
  have z0 : (0 : Nat) ≤ 4000 := by omega
  have z1 : (1 : Nat) ≤ 4000 := by omega
  have hlen : (GB n R).length ≤ 64 := Nat.le_trans (List.length_filter_le _ _) (CP_64 h2)
  have e2 : addD (.list [.int 0]) (.list (((GB n R).map fun p => p.1.length * p.2.length).map iD)) = .ret (.own (iD 0 :: ((GB n R).map fun p => p.1.length * p.2.length).map iD)) := add_LL (p := [iD 0]) (by simp; omega)
  unfold bestP
  cases hb : BS n R with
  | nil =>
    rw [hb] at l1
    have e3 : neA (.list []) (.list []) = .ret (.sh (.bool false)) := ne_LC (L := [])
    simp only [q_widest_block, b_widest_block, runD, seqD, ifD, setD, asgD, parD, par3D, setV, extD, appD, ownAt, vD, vA, oA, kA, fzA, bin, tB, tNot, tAnd, tOr, nA, andA, orA, ifA, chA, a0, aC, b0, bC, cal, calK, isA, is2A, slA, o0, oI, ixL, itS, itZ, itE, itE2, reprL, mulOwn, gN, g0, lamA, xO, sNil, sRet, sEx, sErr, sBk, sCt, sShare, bind_ret, bind_err, slA0, slAp, slAf, slAs, slD0, slDo, slDs, calling, toB, toD, toS, toI, frz, dataA, allS, mkTup, mkLst, itemsL, itemsT, share, share1, tupG, consG, List.append_nil, List.replicate, List.getElem?_cons_zero, List.getElem?_cons_succ, List.cons_append, List.nil_append, Nat.sub_self, List.length_cons, List.length_nil, List.set_cons_zero, List.set_cons_succ, List.foldl_cons, List.foldl_nil, if_true, if_false, ite_true, ite_false, reduceCtorEq, Nat.reduceAdd, Nat.reduceSub, Nat.reduceLeDiff, Bool.not_true, Bool.not_false, Bool.false_eq_true, pick, List.filterMap_cons, List.filterMap_nil, e_want_relation h1 h2, e_all_greatest h2, z0, z1, l0, e2, e1, l1, List.map_nil, e3]
  | cons p r =>
    rw [hb] at l1
    have e3 : neA (.list (encC p :: r.map encC)) (.list []) = .ret (.sh (.bool true)) := ne_LC (L := p :: r)
    have e4 : ixD (.list (encC p :: r.map encC)) (.int 0) = .ret (.sh (encC p)) := ix_list (i := 0) rfl
    simp only [q_widest_block, b_widest_block, runD, seqD, ifD, setD, asgD, parD, par3D, setV, extD, appD, ownAt, vD, vA, oA, kA, fzA, bin, tB, tNot, tAnd, tOr, nA, andA, orA, ifA, chA, a0, aC, b0, bC, cal, calK, isA, is2A, slA, o0, oI, ixL, itS, itZ, itE, itE2, reprL, mulOwn, gN, g0, lamA, xO, sNil, sRet, sEx, sErr, sBk, sCt, sShare, bind_ret, bind_err, slA0, slAp, slAf, slAs, slD0, slDo, slDs, calling, toB, toD, toS, toI, frz, dataA, allS, mkTup, mkLst, itemsL, itemsT, share, share1, tupG, consG, List.append_nil, List.replicate, List.getElem?_cons_zero, List.getElem?_cons_succ, List.cons_append, List.nil_append, Nat.sub_self, List.length_cons, List.length_nil, List.set_cons_zero, List.set_cons_succ, List.foldl_cons, List.foldl_nil, if_true, if_false, ite_true, ite_false, reduceCtorEq, Nat.reduceAdd, Nat.reduceSub, Nat.reduceLeDiff, Bool.not_true, Bool.not_false, Bool.false_eq_true, pick, List.filterMap_cons, List.filterMap_nil, e_want_relation h1 h2, e_all_greatest h2, z0, z1, l0, e2, e1, l1, List.map_cons, e3, e4]
/-! ### turned -/
def tr (R : Nat → Nat → Bool) : Nat → Nat → Bool := fun i j => R j i
theorem e_turned_of (hn : n ≤ 1000) : d_turned_of [.sh (encF n R)] = .ret (.sh (encF n (tr R))) := by
  have hg : ∀ i, i < n → ∀ j, j < n → lamG 2 [0] 3 l_turned_of_0 [.sh (encF n R)] [iD i, iD j] = .ret (.bool (tr R i j)) := fun i hi j hj => by
    show (l_turned_of_0 [.sh (iD i), .sh (iD j), .sh (encF n R)]).bind toS = _
    simp only [l_turned_of_0, runD, seqD, ifD, setD, asgD, parD, par3D, setV, extD, appD, ownAt, vD, vA, oA, kA, fzA, bin, tB, tNot, tAnd, tOr, nA, andA, orA, ifA, chA, a0, aC, b0, bC, cal, calK, isA, is2A, slA, o0, oI, ixL, itS, itZ, itE, itE2, reprL, mulOwn, gN, g0, lamA, xO, sNil, sRet, sEx, sErr, sBk, sCt, sShare, bind_ret, bind_err, slA0, slAp, slAf, slAs, slD0, slDo, slDs, calling, toB, toD, toS, toI, frz, dataA, allS, mkTup, mkLst, itemsL, itemsT, share, share1, tupG, consG, List.append_nil, List.replicate, List.getElem?_cons_zero, List.getElem?_cons_succ, List.cons_append, List.nil_append, Nat.sub_self, List.length_cons, List.length_nil, List.set_cons_zero, List.set_cons_succ, List.foldl_cons, List.foldl_nil, if_true, if_false, ite_true, ite_false, reduceCtorEq, Nat.reduceAdd, Nat.reduceSub, Nat.reduceLeDiff, Bool.not_true, Bool.not_false, Bool.false_eq_true, pick, List.filterMap_cons, List.filterMap_nil, ix_F hj, mem_F hi, id]
    rfl
  have e := e_by_rule (n := n) (R := tr R) (show n ≤ 100000 by omega) hg
  simp only [q_turned_of, b_turned_of, runD, seqD, ifD, setD, asgD, parD, par3D, setV, extD, appD, ownAt, vD, vA, oA, kA, fzA, bin, tB, tNot, tAnd, tOr, nA, andA, orA, ifA, chA, a0, aC, b0, bC, cal, calK, isA, is2A, slA, o0, oI, ixL, itS, itZ, itE, itE2, reprL, mulOwn, gN, g0, lamA, xO, sNil, sRet, sEx, sErr, sBk, sCt, sShare, bind_ret, bind_err, slA0, slAp, slAf, slAs, slD0, slDo, slDs, calling, toB, toD, toS, toI, frz, dataA, allS, mkTup, mkLst, itemsL, itemsT, share, share1, tupG, consG, List.append_nil, List.replicate, List.getElem?_cons_zero, List.getElem?_cons_succ, List.cons_append, List.nil_append, Nat.sub_self, List.length_cons, List.length_nil, List.set_cons_zero, List.set_cons_succ, List.foldl_cons, List.foldl_nil, if_true, if_false, ite_true, ite_false, reduceCtorEq, Nat.reduceAdd, Nat.reduceSub, Nat.reduceLeDiff, Bool.not_true, Bool.not_false, Bool.false_eq_true, pick, List.filterMap_cons, List.filterMap_nil, len_F, e]
theorem e_turned (h1 : 1 ≤ n) (h2 : n ≤ 6) : d_turned [.sh (encF n R)] = .ret (.sh (encF n (tr R))) := by
  simp only [q_turned, b_turned, runD, seqD, ifD, setD, asgD, parD, par3D, setV, extD, appD, ownAt, vD, vA, oA, kA, fzA, bin, tB, tNot, tAnd, tOr, nA, andA, orA, ifA, chA, a0, aC, b0, bC, cal, calK, isA, is2A, slA, o0, oI, ixL, itS, itZ, itE, itE2, reprL, mulOwn, gN, g0, lamA, xO, sNil, sRet, sEx, sErr, sBk, sCt, sShare, bind_ret, bind_err, slA0, slAp, slAf, slAs, slD0, slDo, slDs, calling, toB, toD, toS, toI, frz, dataA, allS, mkTup, mkLst, itemsL, itemsT, share, share1, tupG, consG, List.append_nil, List.replicate, List.getElem?_cons_zero, List.getElem?_cons_succ, List.cons_append, List.nil_append, Nat.sub_self, List.length_cons, List.length_nil, List.set_cons_zero, List.set_cons_succ, List.foldl_cons, List.foldl_nil, if_true, if_false, ite_true, ite_false, reduceCtorEq, Nat.reduceAdd, Nat.reduceSub, Nat.reduceLeDiff, Bool.not_true, Bool.not_false, Bool.false_eq_true, pick, List.filterMap_cons, List.filterMap_nil, e_want_relation h1 h2, e_turned_of (show n ≤ 1000 by omega)]
theorem e__law_turned (hn : n ≤ 1000) : d__law_turned [.sh (encF n R)] = .ret (.sh (encF n (tr R))) := by
  have l1 : c__law_turned_0 [.sh (encF n R), .no] = .ret (.own ((List.range n).map fun b => encT (rowOf n (tr R) b))) := by
    refine lcD_eq (itR_n (n := n) (by simp only [runD, seqD, ifD, setD, asgD, parD, par3D, setV, extD, appD, ownAt, vD, vA, oA, kA, fzA, bin, tB, tNot, tAnd, tOr, nA, andA, orA, ifA, chA, a0, aC, b0, bC, cal, calK, isA, is2A, slA, o0, oI, ixL, itS, itZ, itE, itE2, reprL, mulOwn, gN, g0, lamA, xO, sNil, sRet, sEx, sErr, sBk, sCt, sShare, bind_ret, bind_err, slA0, slAp, slAf, slAs, slD0, slDo, slDs, calling, toB, toD, toS, toI, frz, dataA, allS, mkTup, mkLst, itemsL, itemsT, share, share1, tupG, consG, List.append_nil, List.replicate, List.getElem?_cons_zero, List.getElem?_cons_succ, List.cons_append, List.nil_append, Nat.sub_self, List.length_cons, List.length_nil, List.set_cons_zero, List.set_cons_succ, List.foldl_cons, List.foldl_nil, if_true, if_false, ite_true, ite_false, reduceCtorEq, Nat.reduceAdd, Nat.reduceSub, Nat.reduceLeDiff, Bool.not_true, Bool.not_false, Bool.false_eq_true, pick, List.filterMap_cons, List.filterMap_nil, len_F]) (by omega)) rfl (lcN1 (e := iD) _ _ fun b hb => ?_)
    have hb := List.mem_range.mp hb
    have z1 : (1 : Nat) ≤ 4000 := by omega
    have hl : Lot n [b] := ⟨List.pairwise_singleton _ _, fun a ha => by rw [List.mem_singleton.mp ha]; exact hb⟩
    have e : d__law_standing [.sh (encF n R), .sh (.tuple [iD b])] = .ret (.sh (encT (stn n R [b]))) := e__law_standing hl
    have e2 : stn n R [b] = rowOf n (tr R) b := by
      unfold stn rowOf tr
      congr 1
      funext a
      simp
    simp only [runD, seqD, ifD, setD, asgD, parD, par3D, setV, extD, appD, ownAt, vD, vA, oA, kA, fzA, bin, tB, tNot, tAnd, tOr, nA, andA, orA, ifA, chA, a0, aC, b0, bC, cal, calK, isA, is2A, slA, o0, oI, ixL, itS, itZ, itE, itE2, reprL, mulOwn, gN, g0, lamA, xO, sNil, sRet, sEx, sErr, sBk, sCt, sShare, bind_ret, bind_err, slA0, slAp, slAf, slAs, slD0, slDo, slDs, calling, toB, toD, toS, toI, frz, dataA, allS, mkTup, mkLst, itemsL, itemsT, share, share1, tupG, consG, List.append_nil, List.replicate, List.getElem?_cons_zero, List.getElem?_cons_succ, List.cons_append, List.nil_append, Nat.sub_self, List.length_cons, List.length_nil, List.set_cons_zero, List.set_cons_succ, List.foldl_cons, List.foldl_nil, if_true, if_false, ite_true, ite_false, reduceCtorEq, Nat.reduceAdd, Nat.reduceSub, Nat.reduceLeDiff, Bool.not_true, Bool.not_false, Bool.false_eq_true, pick, List.filterMap_cons, List.filterMap_nil, z1, e, e2]
  simp only [q__law_turned, b__law_turned, runD, seqD, ifD, setD, asgD, parD, par3D, setV, extD, appD, ownAt, vD, vA, oA, kA, fzA, bin, tB, tNot, tAnd, tOr, nA, andA, orA, ifA, chA, a0, aC, b0, bC, cal, calK, isA, is2A, slA, o0, oI, ixL, itS, itZ, itE, itE2, reprL, mulOwn, gN, g0, lamA, xO, sNil, sRet, sEx, sErr, sBk, sCt, sShare, bind_ret, bind_err, slA0, slAp, slAf, slAs, slD0, slDo, slDs, calling, toB, toD, toS, toI, frz, dataA, allS, mkTup, mkLst, itemsL, itemsT, share, share1, tupG, consG, List.append_nil, List.replicate, List.getElem?_cons_zero, List.getElem?_cons_succ, List.cons_append, List.nil_append, Nat.sub_self, List.length_cons, List.length_nil, List.set_cons_zero, List.set_cons_succ, List.foldl_cons, List.foldl_nil, if_true, if_false, ite_true, ite_false, reduceCtorEq, Nat.reduceAdd, Nat.reduceSub, Nat.reduceLeDiff, Bool.not_true, Bool.not_false, Bool.false_eq_true, pick, List.filterMap_cons, List.filterMap_nil, l1, tup_l]
  rfl
/-! ### the law's own judges -/
theorem e__law_is_lot (h : Lot n l) : d__law_is_lot [.sh (iD n), .sh (encT l)] = yes := by
  have l0 : c__law_is_lot_0 [.sh (iD n), .sh (encT l), .no, .no, .no] = .ret (.own (l.map fun _ => PyData.bool true)) := by
    refine lcD_eq (ds := l.map iD) rfl rfl (lcN1 (e := iD) _ l fun a ha => ?_)
    have h3 := h.2 a ha
    have e1 : d__law_is_whole [.sh (iD a)] = yes := by
      rw [q__law_is_whole]
      rfl
    have e2 : leD (.int 0) (iD a) = yes := by rw [show leD (.int 0) (iD a) = .ret (.sh (.bool (decide ((0 : Int) ≤ (a : Int))))) from rfl, decide_eq_true (by omega)]
    have e3 : ltD (iD a) (iD n) = yes := by rw [lt_int, decide_eq_true (by omega)]
    simp only [runD, seqD, ifD, setD, asgD, parD, par3D, setV, extD, appD, ownAt, vD, vA, oA, kA, fzA, bin, tB, tNot, tAnd, tOr, nA, andA, orA, ifA, chA, a0, aC, b0, bC, cal, calK, isA, is2A, slA, o0, oI, ixL, itS, itZ, itE, itE2, reprL, mulOwn, gN, g0, lamA, xO, sNil, sRet, sEx, sErr, sBk, sCt, sShare, bind_ret, bind_err, slA0, slAp, slAf, slAs, slD0, slDo, slDs, calling, toB, toD, toS, toI, frz, dataA, allS, mkTup, mkLst, itemsL, itemsT, share, share1, tupG, consG, List.append_nil, List.replicate, List.getElem?_cons_zero, List.getElem?_cons_succ, List.cons_append, List.nil_append, Nat.sub_self, List.length_cons, List.length_nil, List.set_cons_zero, List.set_cons_succ, List.foldl_cons, List.foldl_nil, if_true, if_false, ite_true, ite_false, reduceCtorEq, Nat.reduceAdd, Nat.reduceSub, Nat.reduceLeDiff, Bool.not_true, Bool.not_false, Bool.false_eq_true, pick, List.filterMap_cons, List.filterMap_nil, e1, e2, e3]
  have l1 : c__law_is_lot_1 [.sh (iD n), .sh (encT l), .no, .no, .no] = .ret (.own ((l.zip (l.drop 1)).map fun _ => PyData.bool true)) := by
    have it : itZ (aC (vA 1) (aC (slA (vD 1) (oI (oA (kA (.int 1)))) o0) a0)) [.sh (iD n), .sh (encT l), .no, .no, .no] = .ret ((l.zip (l.drop 1)).map fun p => PyData.tuple [iD p.1, iD p.2]) := by
      show zipD [encT l, .tuple (Dn.cutD (l.map iD) (some 1) none)] = _
      rw [cut1]
      show T.ret (zipL _ _) = _
      rw [zip_T]
    exact lcD_eq it rfl (lcG (b := fun _ => true) (fun p => [.sh (iD n), .sh (encT l), .no, .sh (iD p.1), .sh (iD p.2)]) (fun _ => PyData.bool true) _ (fun p _ => rfl) (fun _ _ => rfl) fun p hp _ => by
      show T.ret (PyData.bool (decide ((p.1 : Int) < (p.2 : Int)))) = _
      rw [decide_eq_true (by have := zip_lt h.1 p hp; omega)]) |>.trans (by rw [List.filter_eq_self.mpr fun _ _ => rfl])
  have t1 : isTy "tuple" (encT l) = true := rfl
  simp only [q__law_is_lot, b__law_is_lot, runD, seqD, ifD, setD, asgD, parD, par3D, setV, extD, appD, ownAt, vD, vA, oA, kA, fzA, bin, tB, tNot, tAnd, tOr, nA, andA, orA, ifA, chA, a0, aC, b0, bC, cal, calK, isA, is2A, slA, o0, oI, ixL, itS, itZ, itE, itE2, reprL, mulOwn, gN, g0, lamA, xO, sNil, sRet, sEx, sErr, sBk, sCt, sShare, bind_ret, bind_err, slA0, slAp, slAf, slAs, slD0, slDo, slDs, calling, toB, toD, toS, toI, frz, dataA, allS, mkTup, mkLst, itemsL, itemsT, share, share1, tupG, consG, List.append_nil, List.replicate, List.getElem?_cons_zero, List.getElem?_cons_succ, List.cons_append, List.nil_append, Nat.sub_self, List.length_cons, List.length_nil, List.set_cons_zero, List.set_cons_succ, List.foldl_cons, List.foldl_nil, if_true, if_false, ite_true, ite_false, reduceCtorEq, Nat.reduceAdd, Nat.reduceSub, Nat.reduceLeDiff, Bool.not_true, Bool.not_false, Bool.false_eq_true, pick, List.filterMap_cons, List.filterMap_nil, t1, l0, l1, all_true]
theorem e__law_is_block (hn : n ≤ 1000) (h : Lot n p.1) (h' : Lot n p.2) : d__law_is_block [.sh (encF n R), .sh (encC p)] = .ret (.sh (.bool (FB R p))) := by
  have l0 : c__law_is_block_0 [.sh (encF n R), .sh (encC p), .no] = .ret (.own (p.2.map fun b => .bool (decide (b ∈ shr n R p.1)))) := by
    refine lcD_eq (ds := p.2.map iD) (by simp only [runD, seqD, ifD, setD, asgD, parD, par3D, setV, extD, appD, ownAt, vD, vA, oA, kA, fzA, bin, tB, tNot, tAnd, tOr, nA, andA, orA, ifA, chA, a0, aC, b0, bC, cal, calK, isA, is2A, slA, o0, oI, ixL, itS, itZ, itE, itE2, reprL, mulOwn, gN, g0, lamA, xO, sNil, sRet, sEx, sErr, sBk, sCt, sShare, bind_ret, bind_err, slA0, slAp, slAf, slAs, slD0, slDo, slDs, calling, toB, toD, toS, toI, frz, dataA, allS, mkTup, mkLst, itemsL, itemsT, share, share1, tupG, consG, List.append_nil, List.replicate, List.getElem?_cons_zero, List.getElem?_cons_succ, List.cons_append, List.nil_append, Nat.sub_self, List.length_cons, List.length_nil, List.set_cons_zero, List.set_cons_succ, List.foldl_cons, List.foldl_nil, if_true, if_false, ite_true, ite_false, reduceCtorEq, Nat.reduceAdd, Nat.reduceSub, Nat.reduceLeDiff, Bool.not_true, Bool.not_false, Bool.false_eq_true, pick, List.filterMap_cons, List.filterMap_nil, ix_C1, items_T]) rfl (lcN1 (e := iD) _ p.2 fun b hb => ?_)
    simp only [runD, seqD, ifD, setD, asgD, parD, par3D, setV, extD, appD, ownAt, vD, vA, oA, kA, fzA, bin, tB, tNot, tAnd, tOr, nA, andA, orA, ifA, chA, a0, aC, b0, bC, cal, calK, isA, is2A, slA, o0, oI, ixL, itS, itZ, itE, itE2, reprL, mulOwn, gN, g0, lamA, xO, sNil, sRet, sEx, sErr, sBk, sCt, sShare, bind_ret, bind_err, slA0, slAp, slAf, slAs, slD0, slDo, slDs, calling, toB, toD, toS, toI, frz, dataA, allS, mkTup, mkLst, itemsL, itemsT, share, share1, tupG, consG, List.append_nil, List.replicate, List.getElem?_cons_zero, List.getElem?_cons_succ, List.cons_append, List.nil_append, Nat.sub_self, List.length_cons, List.length_nil, List.set_cons_zero, List.set_cons_succ, List.foldl_cons, List.foldl_nil, if_true, if_false, ite_true, ite_false, reduceCtorEq, Nat.reduceAdd, Nat.reduceSub, Nat.reduceLeDiff, Bool.not_true, Bool.not_false, Bool.false_eq_true, pick, List.filterMap_cons, List.filterMap_nil, ix_C0, e__law_common hn h, mem_T, id]
  have e2 : (p.2.all fun b => decide (b ∈ shr n R p.1)) = p.1.all fun a => p.2.all fun b => R a b := by
    rw [Bool.eq_iff_iff, List.all_eq_true, List.all_eq_true]
    constructor
    · intro z a ha
      rw [List.all_eq_true]
      intro b hb
      exact (mem_shr.mp (of_decide_eq_true (z b hb))).2 a ha
    · intro z b hb
      exact decide_eq_true (mem_shr.mpr ⟨h'.2 b hb, fun a ha => List.all_eq_true.mp (z a ha) b hb⟩)
  have t1 : isTy "tuple" (encC p) = true := rfl
  have t2 : lenD [encC p] = .ret (.sh (iD 2)) := rfl
  have t3 : eqA (iD 2) (.int 2) = yes := rfl
  have e3 : d__law_are_lots [.sh (iD n), .sh (encC p)] = yes := by
    simp only [q__law_are_lots, b__law_are_lots, runD, seqD, ifD, setD, asgD, parD, par3D, setV, extD, appD, ownAt, vD, vA, oA, kA, fzA, bin, tB, tNot, tAnd, tOr, nA, andA, orA, ifA, chA, a0, aC, b0, bC, cal, calK, isA, is2A, slA, o0, oI, ixL, itS, itZ, itE, itE2, reprL, mulOwn, gN, g0, lamA, xO, sNil, sRet, sEx, sErr, sBk, sCt, sShare, bind_ret, bind_err, slA0, slAp, slAf, slAs, slD0, slDo, slDs, calling, toB, toD, toS, toI, frz, dataA, allS, mkTup, mkLst, itemsL, itemsT, share, share1, tupG, consG, List.append_nil, List.replicate, List.getElem?_cons_zero, List.getElem?_cons_succ, List.cons_append, List.nil_append, Nat.sub_self, List.length_cons, List.length_nil, List.set_cons_zero, List.set_cons_succ, List.foldl_cons, List.foldl_nil, if_true, if_false, ite_true, ite_false, reduceCtorEq, Nat.reduceAdd, Nat.reduceSub, Nat.reduceLeDiff, Bool.not_true, Bool.not_false, Bool.false_eq_true, pick, List.filterMap_cons, List.filterMap_nil, t1, t2, t3, ix_C0, ix_C1, e__law_is_lot h, e__law_is_lot h']
  have z0 : (0 : Nat) ≤ 4000 := by omega
  unfold FB
  cases e1 : decide (p.1 = []) <;> cases e4 : decide (p.2 = []) <;> simp only [q__law_is_block, b__law_is_block, runD, seqD, ifD, setD, asgD, parD, par3D, setV, extD, appD, ownAt, vD, vA, oA, kA, fzA, bin, tB, tNot, tAnd, tOr, nA, andA, orA, ifA, chA, a0, aC, b0, bC, cal, calK, isA, is2A, slA, o0, oI, ixL, itS, itZ, itE, itE2, reprL, mulOwn, gN, g0, lamA, xO, sNil, sRet, sEx, sErr, sBk, sCt, sShare, bind_ret, bind_err, slA0, slAp, slAf, slAs, slD0, slDo, slDs, calling, toB, toD, toS, toI, frz, dataA, allS, mkTup, mkLst, itemsL, itemsT, share, share1, tupG, consG, List.append_nil, List.replicate, List.getElem?_cons_zero, List.getElem?_cons_succ, List.cons_append, List.nil_append, Nat.sub_self, List.length_cons, List.length_nil, List.set_cons_zero, List.set_cons_succ, List.foldl_cons, List.foldl_nil, if_true, if_false, ite_true, ite_false, reduceCtorEq, Nat.reduceAdd, Nat.reduceSub, Nat.reduceLeDiff, Bool.not_true, Bool.not_false, Bool.false_eq_true, pick, List.filterMap_cons, List.filterMap_nil, z0, len_F, e3, ix_C0, ix_C1, encT_nil, eq_TT, e1, e4, l0, all_map, e2, Bool.and_true, Bool.true_and, Bool.false_and, Bool.and_false]
/-! ### pairs -/
def PR (n : Nat) (R : Nat → Nat → Bool) : List (Nat × Nat) := (List.range n).flatMap fun i => (rowOf n R i).map fun j => (i, j)
abbrev encP (p : Nat × Nat) : PyData := .tuple [iD p.1, iD p.2]
theorem e__law_pairs (hn : n ≤ 6) : d__law_pairs [.sh (encF n R)] = .ret (.sh (.list ((PR n R).map encP))) := by
  let S : List Nat → List (Nat × Nat) := fun pre => pre.flatMap fun i => (rowOf n R i).map fun j => (i, j)
  have step : ∀ (pre : List Nat) (i : Nat), (S pre).length ≤ 36 → lb__law_pairs_0 [.sh (encF n R), .own ((S pre).map encP), .sh (iD i), .sh (encT (rowOf n R i)), .no] = .ret (.nx [.sh (encF n R), .own ((S (pre ++ [i])).map encP), .sh (iD i), .sh (encT (rowOf n R i)), .no]) := fun pre i hl => by
    have l0 : c__law_pairs_0 [.sh (encF n R), .own ((S pre).map encP), .sh (iD i), .sh (encT (rowOf n R i)), .no] = .ret (.own ((rowOf n R i).map fun j => encP (i, j))) := by
      refine lcD_eq (ds := (rowOf n R i).map iD) rfl rfl (lcN1 (e := iD) _ _ fun j _ => ?_)
      have z2 : (2 : Nat) ≤ 4000 := by omega
      simp only [runD, seqD, ifD, setD, asgD, parD, par3D, setV, extD, appD, ownAt, vD, vA, oA, kA, fzA, bin, tB, tNot, tAnd, tOr, nA, andA, orA, ifA, chA, a0, aC, b0, bC, cal, calK, isA, is2A, slA, o0, oI, ixL, itS, itZ, itE, itE2, reprL, mulOwn, gN, g0, lamA, xO, sNil, sRet, sEx, sErr, sBk, sCt, sShare, bind_ret, bind_err, slA0, slAp, slAf, slAs, slD0, slDo, slDs, calling, toB, toD, toS, toI, frz, dataA, allS, mkTup, mkLst, itemsL, itemsT, share, share1, tupG, consG, List.append_nil, List.replicate, List.getElem?_cons_zero, List.getElem?_cons_succ, List.cons_append, List.nil_append, Nat.sub_self, List.length_cons, List.length_nil, List.set_cons_zero, List.set_cons_succ, List.foldl_cons, List.foldl_nil, if_true, if_false, ite_true, ite_false, reduceCtorEq, Nat.reduceAdd, Nat.reduceSub, Nat.reduceLeDiff, Bool.not_true, Bool.not_false, Bool.false_eq_true, pick, List.filterMap_cons, List.filterMap_nil, z2]
    have hr := (lot_row n R i).len
    have e : (S pre).map encP ++ ((rowOf n R i).map fun j => encP (i, j)) = (S (pre ++ [i])).map encP := by
      show _ = ((pre ++ [i]).flatMap _).map encP
      rw [List.flatMap_append, List.map_append, List.flatMap_cons, List.flatMap_nil, List.append_nil, List.map_map]
      rfl
    have z : ((S pre).map encP).length + ((rowOf n R i).map fun j => encP (i, j)).length ≤ 1000000 := by
      rw [List.length_map, List.length_map]
      omega
    simp only [lb__law_pairs_0, runD, seqD, ifD, setD, asgD, parD, par3D, setV, extD, appD, ownAt, vD, vA, oA, kA, fzA, bin, tB, tNot, tAnd, tOr, nA, andA, orA, ifA, chA, a0, aC, b0, bC, cal, calK, isA, is2A, slA, o0, oI, ixL, itS, itZ, itE, itE2, reprL, mulOwn, gN, g0, lamA, xO, sNil, sRet, sEx, sErr, sBk, sCt, sShare, bind_ret, bind_err, slA0, slAp, slAf, slAs, slD0, slDo, slDs, calling, toB, toD, toS, toI, frz, dataA, allS, mkTup, mkLst, itemsL, itemsT, share, share1, tupG, consG, List.append_nil, List.replicate, List.getElem?_cons_zero, List.getElem?_cons_succ, List.cons_append, List.nil_append, Nat.sub_self, List.length_cons, List.length_nil, List.set_cons_zero, List.set_cons_succ, List.foldl_cons, List.foldl_nil, if_true, if_false, ite_true, ite_false, reduceCtorEq, Nat.reduceAdd, Nat.reduceSub, Nat.reduceLeDiff, Bool.not_true, Bool.not_false, Bool.false_eq_true, pick, List.filterMap_cons, List.filterMap_nil, l0, z, e]
  have small : ∀ pre suf, List.range n = pre ++ suf → (S pre).length ≤ 36 := fun pre suf e => by
    have h1 : ∀ l : List Nat, (S l).length ≤ l.length * 6 := fun l => by
      induction l with
      | nil => exact Nat.zero_le _
      | cons a l ih =>
        show ((a :: l).flatMap _).length ≤ _
        rw [List.flatMap_cons, List.length_append, List.length_map, List.length_cons]
        have := (lot_row n R a).len
        have ih2 : (l.flatMap fun i => (rowOf n R i).map fun j => (i, j)).length ≤ l.length * 6 := ih
        omega
    have h2 := h1 pre
    have h3 := congrArg List.length e
    rw [List.length_range, List.length_append] at h3
    omega
  have loop : ∀ (r pre : List Nat) (x y : AV), List.range n = pre ++ r → ∃ x' y', forItems (tupG 2 (consG (gN 2) (consG (gN 3) (g0)))) lb__law_pairs_0 (r.map fun i => PyData.tuple [iD i, encT (rowOf n R i)]) [.sh (encF n R), .own ((S pre).map encP), x, y, .no] = .ret (.nx [.sh (encF n R), .own ((PR n R).map encP), x', y', .no]) := fun r => by
    induction r with
    | nil =>
      intro pre x y e
      refine ⟨x, y, ?_⟩
      have e2 : S pre = PR n R := by
        rw [List.append_nil] at e
        show pre.flatMap _ = _
        rw [← e]
        rfl
      rw [e2]
      rfl
    | cons i r ih =>
      intro pre x y e
      obtain ⟨x', y', h⟩ := ih (pre ++ [i]) (.sh (iD i)) (.sh (encT (rowOf n R i))) (by rw [e, List.append_assoc]; rfl)
      refine ⟨x', y', ?_⟩
      show ((T.ret ([.sh (encF n R), .own ((S pre).map encP), .sh (iD i), .sh (encT (rowOf n R i)), .no] : Dn.Env)).bind fun ρ1 => _) = _
      rw [bind_ret, step pre i (small pre _ e), bind_ret]
      exact h
  obtain ⟨x', y', e⟩ := loop (List.range n) [] .no .no rfl
  have e0 : forD (itE2 (aC (vA 0) (a0))) (tupG 2 (consG (gN 2) (consG (gN 3) (g0)))) lb__law_pairs_0 [.sh (encF n R), .own [], .no, .no, .no] = .ret (.nx [.sh (encF n R), .own ((PR n R).map encP), x', y', .no]) := by
    unfold forD
    rw [show itE2 (aC (vA 0) (a0)) [.sh (encF n R), .own [], .no, .no, .no] = .ret ((List.range n).map fun i => PyData.tuple [iD i, encT (rowOf n R i)]) by simp only [runD, seqD, ifD, setD, asgD, parD, par3D, setV, extD, appD, ownAt, vD, vA, oA, kA, fzA, bin, tB, tNot, tAnd, tOr, nA, andA, orA, ifA, chA, a0, aC, b0, bC, cal, calK, isA, is2A, slA, o0, oI, ixL, itS, itZ, itE, itE2, reprL, mulOwn, gN, g0, lamA, xO, sNil, sRet, sEx, sErr, sBk, sCt, sShare, bind_ret, bind_err, slA0, slAp, slAf, slAs, slD0, slDo, slDs, calling, toB, toD, toS, toI, frz, dataA, allS, mkTup, mkLst, itemsL, itemsT, share, share1, tupG, consG, List.append_nil, List.replicate, List.getElem?_cons_zero, List.getElem?_cons_succ, List.cons_append, List.nil_append, Nat.sub_self, List.length_cons, List.length_nil, List.set_cons_zero, List.set_cons_succ, List.foldl_cons, List.foldl_nil, if_true, if_false, ite_true, ite_false, reduceCtorEq, Nat.reduceAdd, Nat.reduceSub, Nat.reduceLeDiff, Bool.not_true, Bool.not_false, Bool.false_eq_true, pick, List.filterMap_cons, List.filterMap_nil, enum_F], bind_ret]
    exact e
  have z0 : (0 : Nat) ≤ 4000 := by omega
  simp only [q__law_pairs, b__law_pairs, runD, seqD, ifD, setD, asgD, parD, par3D, setV, extD, appD, ownAt, vD, vA, oA, kA, fzA, bin, tB, tNot, tAnd, tOr, nA, andA, orA, ifA, chA, a0, aC, b0, bC, cal, calK, isA, is2A, slA, o0, oI, ixL, itS, itZ, itE, itE2, reprL, mulOwn, gN, g0, lamA, xO, sNil, sRet, sEx, sErr, sBk, sCt, sShare, bind_ret, bind_err, slA0, slAp, slAf, slAs, slD0, slDo, slDs, calling, toB, toD, toS, toI, frz, dataA, allS, mkTup, mkLst, itemsL, itemsT, share, share1, tupG, consG, List.append_nil, List.replicate, List.getElem?_cons_zero, List.getElem?_cons_succ, List.cons_append, List.nil_append, Nat.sub_self, List.length_cons, List.length_nil, List.set_cons_zero, List.set_cons_succ, List.foldl_cons, List.foldl_nil, if_true, if_false, ite_true, ite_false, reduceCtorEq, Nat.reduceAdd, Nat.reduceSub, Nat.reduceLeDiff, Bool.not_true, Bool.not_false, Bool.false_eq_true, pick, List.filterMap_cons, List.filterMap_nil, z0]
  rw [e0]
  simp only [runD, seqD, ifD, setD, asgD, parD, par3D, setV, extD, appD, ownAt, vD, vA, oA, kA, fzA, bin, tB, tNot, tAnd, tOr, nA, andA, orA, ifA, chA, a0, aC, b0, bC, cal, calK, isA, is2A, slA, o0, oI, ixL, itS, itZ, itE, itE2, reprL, mulOwn, gN, g0, lamA, xO, sNil, sRet, sEx, sErr, sBk, sCt, sShare, bind_ret, bind_err, slA0, slAp, slAf, slAs, slD0, slDo, slDs, calling, toB, toD, toS, toI, frz, dataA, allS, mkTup, mkLst, itemsL, itemsT, share, share1, tupG, consG, List.append_nil, List.replicate, List.getElem?_cons_zero, List.getElem?_cons_succ, List.cons_append, List.nil_append, Nat.sub_self, List.length_cons, List.length_nil, List.set_cons_zero, List.set_cons_succ, List.foldl_cons, List.foldl_nil, if_true, if_false, ite_true, ite_false, reduceCtorEq, Nat.reduceAdd, Nat.reduceSub, Nat.reduceLeDiff, Bool.not_true, Bool.not_false, Bool.false_eq_true, pick, List.filterMap_cons, List.filterMap_nil]
theorem mem_PR {p : Nat × Nat} : p ∈ PR n R ↔ p.1 < n ∧ p.2 < n ∧ R p.1 p.2 = true := by
  unfold PR
  rw [List.mem_flatMap]
  constructor
  · rintro ⟨i, hi, h⟩
    obtain ⟨j, hj, rfl⟩ := List.mem_map.mp h
    exact ⟨List.mem_range.mp hi, (mem_row.mp hj).1, (mem_row.mp hj).2⟩
  · rintro ⟨h1, h2, h3⟩
    exact ⟨p.1, List.mem_range.mpr h1, List.mem_map.mpr ⟨p.2, mem_row.mpr ⟨h2, h3⟩, rfl⟩⟩
end
end Mf
end
section
set_option Elab.async false
set_option linter.all false
set_option autoImplicit false
set_option maxRecDepth 100000
/-! F2: draws and picks, of every law (the numbers of its _law_draw are read off). -/
namespace Mf
open PySem Dn Wk
open Classical

theorem draw_body : ∃ A B M M2 C : Int, b__law_draw = drawBody A B M M2 C ∧ ((-(2 ^ 64) < A ∧ A < 2 ^ 64) ∧ 0 < M ∧ M < 2147483648 ∧ M2 ≠ 0 ∧ C ≠ 0 ∧ C.natAbs < 1073741824) := ⟨_, _, _, _, _, rfl, by decide⟩
theorem draw_hold {n : Nat} {p : AV → Prop} (h0 : 0 < n) (h1 : n < 1073741824) (hp : ∀ d, d < n → p (.sh (iD d))) : Hold (d__law_draw [.pot, .sh (iD n)]) p := by
  obtain ⟨A, B, M, M2, C, e, a1, a2, a3, a4, a5, a6⟩ := draw_body
  rw [q__law_draw, e]
  exact draw_gen a1 a2 a3 a4 ⟨a5, a6⟩ h0 h1 hp
theorem draw_int {n : Nat} (h0 : 0 < n) (h1 : n < 1073741824) {p : AV → Prop} {i : Int} (hi : i = (n : Int)) (hp : ∀ d, d < n → p (.sh (iD d))) : Hold (d__law_draw [.pot, .sh (.int i)]) p := by
  subst hi
  exact draw_hold h0 h1 hp
theorem e__law_pick {ds : List PyData} (h0 : 0 < ds.length) (h1 : ds.length < 1073741824) : Hold (d__law_pick [.pot, .sh (.list ds)]) fun av => ∃ d ∈ ds, av = .sh d := by
  have el : lenD [.list ds] = .ret (.sh (iD ds.length)) := rfl
  rw [q__law_pick]
  refine hrun ?_
  unfold b__law_pick
  refine hret ?_
  simp only [runD, seqD, ifD, setD, asgD, parD, par3D, setV, extD, appD, ownAt, vD, vA, oA, kA, fzA, bin, tB, tNot, tAnd, tOr, nA, andA, orA, ifA, chA, a0, aC, b0, bC, cal, calK, isA, is2A, slA, o0, oI, ixL, itS, itZ, itE, itE2, reprL, mulOwn, gN, g0, lamA, xO, sNil, sRet, sEx, sErr, sBk, sCt, sShare, bind_ret, bind_err, slA0, slAp, slAf, slAs, slD0, slDo, slDs, calling, toB, toD, toS, toI, frz, dataA, allS, mkTup, mkLst, itemsL, itemsT, share, share1, tupG, consG, List.append_nil, List.replicate, List.getElem?_cons_zero, List.getElem?_cons_succ, List.cons_append, List.nil_append, Nat.sub_self, List.length_cons, List.length_nil, List.set_cons_zero, List.set_cons_succ, List.foldl_cons, List.foldl_nil, if_true, if_false, ite_true, ite_false, reduceCtorEq, Nat.reduceAdd, Nat.reduceSub, Nat.reduceLeDiff, Bool.not_true, Bool.not_false, Bool.false_eq_true, pick, List.filterMap_cons, List.filterMap_nil, el]
  simp only [hold_bind]
  refine draw_hold h0 h1 fun d hd => ?_
  simp only [runD, seqD, ifD, setD, asgD, parD, par3D, setV, extD, appD, ownAt, vD, vA, oA, kA, fzA, bin, tB, tNot, tAnd, tOr, nA, andA, orA, ifA, chA, a0, aC, b0, bC, cal, calK, isA, is2A, slA, o0, oI, ixL, itS, itZ, itE, itE2, reprL, mulOwn, gN, g0, lamA, xO, sNil, sRet, sEx, sErr, sBk, sCt, sShare, bind_ret, bind_err, slA0, slAp, slAf, slAs, slD0, slDo, slDs, calling, toB, toD, toS, toI, frz, dataA, allS, mkTup, mkLst, itemsL, itemsT, share, share1, tupG, consG, List.append_nil, List.replicate, List.getElem?_cons_zero, List.getElem?_cons_succ, List.cons_append, List.nil_append, Nat.sub_self, List.length_cons, List.length_nil, List.set_cons_zero, List.set_cons_succ, List.foldl_cons, List.foldl_nil, if_true, if_false, ite_true, ite_false, reduceCtorEq, Nat.reduceAdd, Nat.reduceSub, Nat.reduceLeDiff, Bool.not_true, Bool.not_false, Bool.false_eq_true, pick, List.filterMap_cons, List.filterMap_nil, hold_ret]
  have e : ixD (.list ds) (iD d) = .ret (.sh ds[d]) := ix_list (List.getElem?_eq_getElem hd)
  rw [e]
  exact ⟨_, rfl, _, List.getElem_mem hd, rfl⟩
end Mf
end
section
set_option Elab.async false
set_option linter.all false
set_option autoImplicit false
set_option maxRecDepth 100000
/-! K4 (k71): the drawn relation. -/
namespace Mf
open PySem Dn Wk
open Classical

abbrev rE (n way mu : Nat) (f : AV) (x5 x6 x7 x8 x9 x10 : AV) : Dn.Env := [.pot, .sh (iD n), .sh (iD way), .sh (iD mu), f, x5, x6, x7, x8, x9, x10]
/-- rows stand in slot 4 -/
def InR (n way mu : Nat) (o : Out) : Prop := ∃ (L : List (List Nat)) (x5 x6 x7 x8 x9 x10 : AV), o = .nx (rE n way mu (.own (L.map encN)) x5 x6 x7 x8 x9 x10) ∧ L.length = n ∧ (∀ r ∈ L, Lot n r) ∧ ∀ x ∈ [x5, x6, x7, x8, x9, x10], ∀ ds, x ≠ .own ds
theorem notOwn_of {ρ : Dn.Env} {v : Nat} {x : AV} (h : ρ[v]? = some x) (hx : ∀ ds, x ≠ .own ds) : [v].all (notOwn ρ) = true := by
  rw [List.all_cons, List.all_nil, Bool.and_true]
  unfold notOwn
  rw [h]
  cases x with
  | own ds => exact absurd rfl (hx ds)
  | _ => rfl
section
variable {n way mu : Nat} {f x5 x6 x7 x8 x9 x10 : AV}
theorem set4 {c : Dn.Env → T AV} (hx : ∀ x ∈ [x5, x6, x7, x8, x9, x10], ∀ ds, x ≠ .own ds) (h : Hold (c (rE n way mu f x5 x6 x7 x8 x9 x10)) fun av => ∃ L : List (List Nat), av = .own (L.map encN) ∧ L.length = n ∧ ∀ r ∈ L, Lot n r) :
    Hold (setD 4 c (rE n way mu f x5 x6 x7 x8 x9 x10)) (InR n way mu) := hset (h.mono fun av ⟨L, e, h1, h2⟩ => by
  subst e
  exact ⟨(by intro z; cases z), L, x5, x6, x7, x8, x9, x10, rfl, h1, h2, hx⟩)
/-- if way == k: rows made anew -/
theorem way_if {k : Nat} {i : Int} {g : Dn.Env → T Out} {o : Out} (hi : i = (k : Int)) (hr : InR n way mu o) (hf : ∀ (L : List (List Nat)) (x5 x6 x7 x8 x9 x10 : AV), L.length = n → (∀ r ∈ L, Lot n r) → (∀ x ∈ [x5, x6, x7, x8, x9, x10], ∀ ds, x ≠ .own ds) → Hold (g (rE n way mu (.own (L.map encN)) x5 x6 x7 x8 x9 x10)) (InR n way mu)) :
    ∃ ρ, o = .nx ρ ∧ Hold (ifD (tB (bin eqA (vD 2) (oA (kA (.int i))))) g sNil ρ) (InR n way mu) := by
  obtain ⟨L, x5, x6, x7, x8, x9, x10, rfl, h1, h2, h3⟩ := hr
  refine ⟨_, rfl, ?_⟩
  have e : tB (bin eqA (vD 2) (oA (kA (.int i)))) (rE n way mu (.own (L.map encN)) x5 x6 x7 x8 x9 x10) = .ret (decide (way = k)) := by
    simp only [runD, seqD, ifD, setD, asgD, parD, par3D, setV, extD, appD, ownAt, vD, vA, oA, kA, fzA, bin, tB, tNot, tAnd, tOr, nA, andA, orA, ifA, chA, a0, aC, b0, bC, cal, calK, isA, is2A, slA, o0, oI, ixL, itS, itZ, itE, itE2, reprL, mulOwn, gN, g0, lamA, xO, sNil, sRet, sEx, sErr, sBk, sCt, sShare, bind_ret, bind_err, slA0, slAp, slAf, slAs, slD0, slDo, slDs, calling, toB, toD, toS, toI, frz, dataA, allS, mkTup, mkLst, itemsL, itemsT, share, share1, tupG, consG, List.append_nil, List.replicate, List.getElem?_cons_zero, List.getElem?_cons_succ, List.cons_append, List.nil_append, Nat.sub_self, List.length_cons, List.length_nil, List.set_cons_zero, List.set_cons_succ, List.foldl_cons, List.foldl_nil, if_true, if_false, ite_true, ite_false, reduceCtorEq, Nat.reduceAdd, Nat.reduceSub, Nat.reduceLeDiff, Bool.not_true, Bool.not_false, Bool.false_eq_true, pick, List.filterMap_cons, List.filterMap_nil, eq_lit k hi]
  cases hc : decide (way = k) with
  | true =>
    rw [if_t (by rw [e, hc])]
    exact hf L x5 x6 x7 x8 x9 x10 h1 h2 h3
  | false =>
    rw [if_f (by rw [e, hc])]
    exact ⟨L, x5, x6, x7, x8, x9, x10, rfl, h1, h2, h3⟩
theorem enum_l {ds : List PyData} : enumX [.list ds] = .ret (enumL ds) := rfl
theorem enum_len {ds : List PyData} : (enumL ds).length = ds.length := by simp [enumL]
/-- the block of rows that is laid on -/
theorem turn0 (hn : n ≤ 6) (L : List (List Nat)) (h1 : L.length = n) (h2 : ∀ r ∈ L, Lot n r) (hx : ∀ x ∈ [x5, x6, x7, x8, x9, x10], ∀ ds, x ≠ .own ds) : Hold (lb__law_relation_0 (rE n way mu (.own (L.map encN)) x5 x6 x7 x8 x9 x10)) (InR n way mu) := by
  have no6 : [6].all (notOwn (rE n way mu (.own (L.map encN)) x5 x6 x7 x8 x9 x10)) = true := notOwn_of (x := x6) rfl (hx x6 (by simp))
  have row : ∀ c : Dn.Env → T AV, c = lcD [6] (itR (vD 1)) (gN 6) (tB (bin eqA (oA (cal (calling 2 d__law_draw) (aC (vA 0) (aC (kA (.int 2)) (a0))))) (oA (kA (.int 0))))) (vA 6) →
      Hold ((c (rE n way mu (.own (L.map encN)) x5 x6 x7 x8 x9 x10)).bind toS) fun y => ∃ r, y = encN r ∧ Lot n r := fun c hc => by
    subst hc
    refine row_draw (n := n) (by omega) rfl no6 (by simp) fun a ha => ?_
    simp only [runD, seqD, ifD, setD, asgD, parD, par3D, setV, extD, appD, ownAt, vD, vA, oA, kA, fzA, bin, tB, tNot, tAnd, tOr, nA, andA, orA, ifA, chA, a0, aC, b0, bC, cal, calK, isA, is2A, slA, o0, oI, ixL, itS, itZ, itE, itE2, reprL, mulOwn, gN, g0, lamA, xO, sNil, sRet, sEx, sErr, sBk, sCt, sShare, bind_ret, bind_err, slA0, slAp, slAf, slAs, slD0, slDo, slDs, calling, toB, toD, toS, toI, frz, dataA, allS, mkTup, mkLst, itemsL, itemsT, share, share1, tupG, consG, List.append_nil, List.replicate, List.getElem?_cons_zero, List.getElem?_cons_succ, List.cons_append, List.nil_append, Nat.sub_self, List.length_cons, List.length_nil, List.set_cons_zero, List.set_cons_succ, List.foldl_cons, List.foldl_nil, if_true, if_false, ite_true, ite_false, reduceCtorEq, Nat.reduceAdd, Nat.reduceSub, Nat.reduceLeDiff, Bool.not_true, Bool.not_false, Bool.false_eq_true, pick, List.filterMap_cons, List.filterMap_nil]
    simp only [hold_bind]
    refine draw_int (n := 2) (by omega) (by omega) rfl fun d hd => ?_
    simp only [runD, seqD, ifD, setD, asgD, parD, par3D, setV, extD, appD, ownAt, vD, vA, oA, kA, fzA, bin, tB, tNot, tAnd, tOr, nA, andA, orA, ifA, chA, a0, aC, b0, bC, cal, calK, isA, is2A, slA, o0, oI, ixL, itS, itZ, itE, itE2, reprL, mulOwn, gN, g0, lamA, xO, sNil, sRet, sEx, sErr, sBk, sCt, sShare, bind_ret, bind_err, slA0, slAp, slAf, slAs, slD0, slDo, slDs, calling, toB, toD, toS, toI, frz, dataA, allS, mkTup, mkLst, itemsL, itemsT, share, share1, tupG, consG, List.append_nil, List.replicate, List.getElem?_cons_zero, List.getElem?_cons_succ, List.cons_append, List.nil_append, Nat.sub_self, List.length_cons, List.length_nil, List.set_cons_zero, List.set_cons_succ, List.foldl_cons, List.foldl_nil, if_true, if_false, ite_true, ite_false, reduceCtorEq, Nat.reduceAdd, Nat.reduceSub, Nat.reduceLeDiff, Bool.not_true, Bool.not_false, Bool.false_eq_true, pick, List.filterMap_cons, List.filterMap_nil, hold_ret]
    rw [eq_lit (i := 0) 0 rfl]
    exact trivial
  unfold lb__law_relation_0
  -- lot, late
  have s1 : Hold (asgD (tupG 2 (consG (gN 8) (consG (gN 5) (g0)))) (cal mkTup (aC (c__law_relation_4) (aC (c__law_relation_3) (a0)))) (rE n way mu (.own (L.map encN)) x5 x6 x7 x8 x9 x10)) fun o => ∃ lot late, o = .nx (rE n way mu (.own (L.map encN)) (.sh (encN late)) x6 x7 (.sh (encN lot)) x9 x10) ∧ Lot n lot ∧ Lot n late := by
    have toA : ∀ {c : Dn.Env → T AV} {ρ : Dn.Env}, Hold ((c ρ).bind toS) (fun y => ∃ r, y = encN r ∧ Lot n r) → Hold (c ρ) fun av => ∃ r, frz av = .sh (encN r) ∧ Lot n r := fun {c ρ} h => by
      refine (Hold.bind h).mono fun av z => ?_
      cases av with
      | sh d =>
        obtain ⟨r, e, hr⟩ := z
        exact ⟨r, by rw [e]; rfl, hr⟩
      | own ds =>
        obtain ⟨r, e, hr⟩ := z
        exact ⟨r, by rw [← e]; rfl, hr⟩
      | no => exact z.elim
      | pot => exact z.elim
      | fn g => exact z.elim
    show Hold ((((c__law_relation_4 _).bind fun a => ((c__law_relation_3 _).bind fun a => (T.ret []).bind fun as => T.ret (frz a :: as)).bind fun as => T.ret (frz a :: as)).bind mkTup).bind toS |>.bind _) _
    refine Hold.bind' (Hold.bind' (Hold.bind' (Hold.bind' ((toA (row c__law_relation_4 rfl)).mono fun av ⟨lot, e1, h1⟩ => Hold.bind' (Hold.bind' ((toA (row c__law_relation_3 rfl)).mono fun aw ⟨late, e2, h2⟩ => ?_))))))
    rw [e1, e2]
    exact ⟨lot, late, rfl, h1, h2⟩
  refine hseq (s1.mono fun o ⟨lot, late, ho, hlot, hlate⟩ => ⟨_, ho, ?_⟩)
  -- found
  have hx' : ∀ x ∈ [AV.sh (encN late), x6, x7, .sh (encN lot), x9, x10], ∀ ds, x ≠ .own ds := fun x hm ds => by
    rcases List.mem_cons.mp hm with rfl | hm
    · intro z; cases z
    rcases List.mem_cons.mp hm with rfl | hm
    · exact hx _ (by simp) ds
    rcases List.mem_cons.mp hm with rfl | hm
    · exact hx _ (by simp) ds
    rcases List.mem_cons.mp hm with rfl | hm
    · intro z; cases z
    · exact hx x (by
        rcases List.mem_cons.mp hm with rfl | hm
        · simp
        · rw [List.mem_singleton.mp hm]; simp) ds
  show Hold (setD 4 c__law_relation_6 (rE n way mu (.sh (.list (L.map encN))) (.sh (encN late)) x6 x7 (.sh (encN lot)) x9 x10)) _
  refine set4 hx' ?_
  have no610 : [6, 10].all (notOwn (rE n way mu (.sh (.list (L.map encN))) (.sh (encN late)) x6 x7 (.sh (encN lot)) x9 x10)) = true := by
    rw [List.all_cons, Bool.and_eq_true]
    refine ⟨?_, notOwn_of (x := x10) rfl (hx x10 (by simp))⟩
    have z := notOwn_of (ρ := rE n way mu (.sh (.list (L.map encN))) (.sh (encN late)) x6 x7 (.sh (encN lot)) x9 x10) (v := 6) (x := x6) rfl (hx x6 (by simp))
    rwa [List.all_cons, List.all_nil, Bool.and_true] at z
  have no9 : ∀ y6 y10, [9].all (notOwn (rE n way mu (.sh (.list (L.map encN))) (.sh (encN late)) y6 x7 (.sh (encN lot)) x9 y10)) = true := fun y6 y10 => notOwn_of (x := x9) rfl (hx x9 (by simp))
  let ρ' : Nat × List Nat → Dn.Env := fun p => rE n way mu (.sh (.list (L.map encN))) (.sh (encN late)) (.sh (iD p.1)) x7 (.sh (encN lot)) x9 (.sh (encN p.2))
  let nr : Nat × List Nat → List Nat := fun p => if p.1 ∈ lot then sortL (p.2 ++ late.filter fun b => !decide (b ∈ p.2)) else p.2
  let Z : List (Nat × List Nat) := (List.range n).map fun i => (i, L.getD i [])
  have hZ : enumL (L.map encN) = Z.map fun p => PyData.tuple [iD p.1, encN p.2] := by
    apply List.ext_getElem?
    intro i
    unfold enumL
    rw [List.getElem?_map, List.getElem?_zipIdx, List.getElem?_map, List.getElem?_map, List.getElem?_map]
    by_cases hi : i < n
    · rw [List.getElem?_range hi, List.getElem?_eq_getElem (by rw [h1]; exact hi)]
      show some (PyData.tuple [.int ((0 + i : Nat) : Int), encN L[i]]) = some (PyData.tuple [iD i, encN (L.getD i [])])
      rw [Nat.zero_add, List.getD_eq_getElem?_getD, List.getElem?_eq_getElem (by rw [h1]; exact hi)]
      rfl
    · rw [List.getElem?_eq_none (by rw [h1]; omega), List.getElem?_eq_none (by rw [List.length_range]; omega)]
      rfl
  have hlz : ∀ p ∈ Z, Lot n p.2 := fun p hp => by
    obtain ⟨i, hi, rfl⟩ := List.mem_map.mp hp
    exact h2 _ (by
      rw [List.getD_eq_getElem?_getD, List.getElem?_eq_getElem (by rw [h1]; exact List.mem_range.mp hi)]
      exact List.getElem_mem _)
  have c5 : ∀ p, p ∈ Z → c__law_relation_5 (ρ' p) = .ret (.own ((late.filter fun b => !decide (b ∈ p.2)).map iD)) := fun p hp => by
    refine lcD_eq (ds := late.map iD) rfl (no9 _ _) (lcN (e := iD) (fun b => !decide (b ∈ p.2)) iD late (fun b _ => ?_) fun b _ _ => rfl)
    simp only [ρ', runD, seqD, ifD, setD, asgD, parD, par3D, setV, extD, appD, ownAt, vD, vA, oA, kA, fzA, bin, tB, tNot, tAnd, tOr, nA, andA, orA, ifA, chA, a0, aC, b0, bC, cal, calK, isA, is2A, slA, o0, oI, ixL, itS, itZ, itE, itE2, reprL, mulOwn, gN, g0, lamA, xO, sNil, sRet, sEx, sErr, sBk, sCt, sShare, bind_ret, bind_err, slA0, slAp, slAf, slAs, slD0, slDo, slDs, calling, toB, toD, toS, toI, frz, dataA, allS, mkTup, mkLst, itemsL, itemsT, share, share1, tupG, consG, List.append_nil, List.replicate, List.getElem?_cons_zero, List.getElem?_cons_succ, List.cons_append, List.nil_append, Nat.sub_self, List.length_cons, List.length_nil, List.set_cons_zero, List.set_cons_succ, List.foldl_cons, List.foldl_nil, if_true, if_false, ite_true, ite_false, reduceCtorEq, Nat.reduceAdd, Nat.reduceSub, Nat.reduceLeDiff, Bool.not_true, Bool.not_false, Bool.false_eq_true, pick, List.filterMap_cons, List.filterMap_nil, mem_N]
  have hN : ∀ p ∈ Z, Lot n (nr p) := fun p hp => by
    have hp2 := hlz p hp
    show Lot n (if p.1 ∈ lot then _ else _)
    split
    · refine lot_sort ?_ fun a ha => ?_
      · refine List.nodup_append.mpr ⟨hp2.1.imp fun h => Nat.ne_of_lt h, List.Pairwise.filter _ (hlate.1.imp fun h => Nat.ne_of_lt h), fun a ha b hb e => ?_⟩
        rw [List.mem_filter] at hb
        have := hb.2
        rw [← e] at this
        simp [ha] at this
      · rcases List.mem_append.mp ha with ha | ha
        · exact hp2.2 a ha
        · exact hlate.2 a (List.mem_filter.mp ha).1
    · exact hp2
  have c6 : c__law_relation_6 (rE n way mu (.sh (.list (L.map encN))) (.sh (encN late)) x6 x7 (.sh (encN lot)) x9 x10) = .ret (.own (Z.map fun p => encN (nr p))) := by
    refine lcD_eq (ds := Z.map fun p => PyData.tuple [iD p.1, encN p.2]) (by simp only [runD, seqD, ifD, setD, asgD, parD, par3D, setV, extD, appD, ownAt, vD, vA, oA, kA, fzA, bin, tB, tNot, tAnd, tOr, nA, andA, orA, ifA, chA, a0, aC, b0, bC, cal, calK, isA, is2A, slA, o0, oI, ixL, itS, itZ, itE, itE2, reprL, mulOwn, gN, g0, lamA, xO, sNil, sRet, sEx, sErr, sBk, sCt, sShare, bind_ret, bind_err, slA0, slAp, slAf, slAs, slD0, slDo, slDs, calling, toB, toD, toS, toI, frz, dataA, allS, mkTup, mkLst, itemsL, itemsT, share, share1, tupG, consG, List.append_nil, List.replicate, List.getElem?_cons_zero, List.getElem?_cons_succ, List.cons_append, List.nil_append, Nat.sub_self, List.length_cons, List.length_nil, List.set_cons_zero, List.set_cons_succ, List.foldl_cons, List.foldl_nil, if_true, if_false, ite_true, ite_false, reduceCtorEq, Nat.reduceAdd, Nat.reduceSub, Nat.reduceLeDiff, Bool.not_true, Bool.not_false, Bool.false_eq_true, pick, List.filterMap_cons, List.filterMap_nil, enum_l, hZ]) no610 ((lcG ρ' (fun _ => true) (fun p => encN (nr p)) Z (fun p _ => rfl) (fun _ _ => rfl) fun p hp _ => ?_).trans (by rw [List.filter_eq_self.mpr fun _ _ => rfl]))
    have hl1 := (hlz p hp).len
    have hl2 := Nat.le_trans (List.length_filter_le (fun b => !decide (b ∈ p.2)) late) hlate.len
    have e1 : addD (encN p.2) (.list ((late.filter fun b => !decide (b ∈ p.2)).map iD)) = .ret (.own ((p.2 ++ late.filter fun b => !decide (b ∈ p.2)).map iD)) := add_NN (by omega)
    have e3 := c5 p hp
    cases e2 : decide (p.1 ∈ lot) with
    | true =>
      have e4 : nr p = sortL (p.2 ++ late.filter fun b => !decide (b ∈ p.2)) := if_pos (of_decide_eq_true e2)
      rw [e4]
      simp only [ρ'] at e3
      simp only [ρ', runD, seqD, ifD, setD, asgD, parD, par3D, setV, extD, appD, ownAt, vD, vA, oA, kA, fzA, bin, tB, tNot, tAnd, tOr, nA, andA, orA, ifA, chA, a0, aC, b0, bC, cal, calK, isA, is2A, slA, o0, oI, ixL, itS, itZ, itE, itE2, reprL, mulOwn, gN, g0, lamA, xO, sNil, sRet, sEx, sErr, sBk, sCt, sShare, bind_ret, bind_err, slA0, slAp, slAf, slAs, slD0, slDo, slDs, calling, toB, toD, toS, toI, frz, dataA, allS, mkTup, mkLst, itemsL, itemsT, share, share1, tupG, consG, List.append_nil, List.replicate, List.getElem?_cons_zero, List.getElem?_cons_succ, List.cons_append, List.nil_append, Nat.sub_self, List.length_cons, List.length_nil, List.set_cons_zero, List.set_cons_succ, List.foldl_cons, List.foldl_nil, if_true, if_false, ite_true, ite_false, reduceCtorEq, Nat.reduceAdd, Nat.reduceSub, Nat.reduceLeDiff, Bool.not_true, Bool.not_false, Bool.false_eq_true, pick, List.filterMap_cons, List.filterMap_nil, mem_N, id, e2, e3, e1, sorted_iD]
      rfl
    | false =>
      have e4 : nr p = p.2 := if_neg (of_decide_eq_false e2)
      rw [e4]
      simp only [ρ', runD, seqD, ifD, setD, asgD, parD, par3D, setV, extD, appD, ownAt, vD, vA, oA, kA, fzA, bin, tB, tNot, tAnd, tOr, nA, andA, orA, ifA, chA, a0, aC, b0, bC, cal, calK, isA, is2A, slA, o0, oI, ixL, itS, itZ, itE, itE2, reprL, mulOwn, gN, g0, lamA, xO, sNil, sRet, sEx, sErr, sBk, sCt, sShare, bind_ret, bind_err, slA0, slAp, slAf, slAs, slD0, slDo, slDs, calling, toB, toD, toS, toI, frz, dataA, allS, mkTup, mkLst, itemsL, itemsT, share, share1, tupG, consG, List.append_nil, List.replicate, List.getElem?_cons_zero, List.getElem?_cons_succ, List.cons_append, List.nil_append, Nat.sub_self, List.length_cons, List.length_nil, List.set_cons_zero, List.set_cons_succ, List.foldl_cons, List.foldl_nil, if_true, if_false, ite_true, ite_false, reduceCtorEq, Nat.reduceAdd, Nat.reduceSub, Nat.reduceLeDiff, Bool.not_true, Bool.not_false, Bool.false_eq_true, pick, List.filterMap_cons, List.filterMap_nil, mem_N, id, e2]
  refine hold_of c6 ⟨Z.map nr, congrArg AV.own (List.map_map (g := encN) (f := nr) (l := Z)).symm, by rw [List.length_map, List.length_map, List.length_range], fun r hr => ?_⟩
  obtain ⟨p, hp, rfl⟩ := List.mem_map.mp hr
  exact hN p hp
theorem e__law_relation (h1 : 1 ≤ n) (h2 : n ≤ 6) : Hold (d__law_relation [.pot, .sh (iD n)]) fun av => ∃ R, av = .sh (encF n R) := by
  have nos : ∀ x ∈ [AV.no, .no, .no, .no, .no, .no], ∀ ds, x ≠ .own ds := fun x hx ds e => by
    subst e
    simp at hx
  rw [q__law_relation]
  refine hrun ?_
  unfold b__law_relation
  -- way, much
  have s1 : Hold (asgD (tupG 2 (consG (gN 2) (consG (gN 3) (g0)))) (cal mkTup (aC (cal (calling 2 d__law_draw) (aC (vA 0) (aC (kA (.int 5)) (a0)))) (aC (bin addD (oA (kA (.int 1))) (oA (cal (calling 2 d__law_draw) (aC (vA 0) (aC (kA (.int 4)) (a0)))))) (a0)))) [.pot, .sh (iD n), .no, .no, .no, .no, .no, .no, .no, .no, .no])
      fun o => ∃ way mu, o = .nx (rE n way mu .no .no .no .no .no .no .no) := by
    simp only [runD, seqD, ifD, setD, asgD, parD, par3D, setV, extD, appD, ownAt, vD, vA, oA, kA, fzA, bin, tB, tNot, tAnd, tOr, nA, andA, orA, ifA, chA, a0, aC, b0, bC, cal, calK, isA, is2A, slA, o0, oI, ixL, itS, itZ, itE, itE2, reprL, mulOwn, gN, g0, lamA, xO, sNil, sRet, sEx, sErr, sBk, sCt, sShare, bind_ret, bind_err, slA0, slAp, slAf, slAs, slD0, slDo, slDs, calling, toB, toD, toS, toI, frz, dataA, allS, mkTup, mkLst, itemsL, itemsT, share, share1, tupG, consG, List.append_nil, List.replicate, List.getElem?_cons_zero, List.getElem?_cons_succ, List.cons_append, List.nil_append, Nat.sub_self, List.length_cons, List.length_nil, List.set_cons_zero, List.set_cons_succ, List.foldl_cons, List.foldl_nil, if_true, if_false, ite_true, ite_false, reduceCtorEq, Nat.reduceAdd, Nat.reduceSub, Nat.reduceLeDiff, Bool.not_true, Bool.not_false, Bool.false_eq_true, pick, List.filterMap_cons, List.filterMap_nil]
    simp only [hold_bind]
    refine draw_int (n := 5) (by omega) (by omega) rfl fun w hw => ?_
    simp only [runD, seqD, ifD, setD, asgD, parD, par3D, setV, extD, appD, ownAt, vD, vA, oA, kA, fzA, bin, tB, tNot, tAnd, tOr, nA, andA, orA, ifA, chA, a0, aC, b0, bC, cal, calK, isA, is2A, slA, o0, oI, ixL, itS, itZ, itE, itE2, reprL, mulOwn, gN, g0, lamA, xO, sNil, sRet, sEx, sErr, sBk, sCt, sShare, bind_ret, bind_err, slA0, slAp, slAf, slAs, slD0, slDo, slDs, calling, toB, toD, toS, toI, frz, dataA, allS, mkTup, mkLst, itemsL, itemsT, share, share1, tupG, consG, List.append_nil, List.replicate, List.getElem?_cons_zero, List.getElem?_cons_succ, List.cons_append, List.nil_append, Nat.sub_self, List.length_cons, List.length_nil, List.set_cons_zero, List.set_cons_succ, List.foldl_cons, List.foldl_nil, if_true, if_false, ite_true, ite_false, reduceCtorEq, Nat.reduceAdd, Nat.reduceSub, Nat.reduceLeDiff, Bool.not_true, Bool.not_false, Bool.false_eq_true, pick, List.filterMap_cons, List.filterMap_nil, hold_ret]
    refine draw_int (n := 4) (by omega) (by omega) rfl fun d hd => ?_
    have e : addD (.int 1) (iD d) = .ret (.sh (iD (1 + d))) := int_iD 1 d
    simp only [e, runD, seqD, ifD, setD, asgD, parD, par3D, setV, extD, appD, ownAt, vD, vA, oA, kA, fzA, bin, tB, tNot, tAnd, tOr, nA, andA, orA, ifA, chA, a0, aC, b0, bC, cal, calK, isA, is2A, slA, o0, oI, ixL, itS, itZ, itE, itE2, reprL, mulOwn, gN, g0, lamA, xO, sNil, sRet, sEx, sErr, sBk, sCt, sShare, bind_ret, bind_err, slA0, slAp, slAf, slAs, slD0, slDo, slDs, calling, toB, toD, toS, toI, frz, dataA, allS, mkTup, mkLst, itemsL, itemsT, share, share1, tupG, consG, List.append_nil, List.replicate, List.getElem?_cons_zero, List.getElem?_cons_succ, List.cons_append, List.nil_append, Nat.sub_self, List.length_cons, List.length_nil, List.set_cons_zero, List.set_cons_succ, List.foldl_cons, List.foldl_nil, if_true, if_false, ite_true, ite_false, reduceCtorEq, Nat.reduceAdd, Nat.reduceSub, Nat.reduceLeDiff, Bool.not_true, Bool.not_false, Bool.false_eq_true, pick, List.filterMap_cons, List.filterMap_nil, hold_ret, tup2]
    exact ⟨w, 1 + d, rfl⟩
  refine hseq (s1.mono fun o ⟨way, mu, ho⟩ => ⟨_, ho, hseq ?_⟩)
  -- the rows
  have s2 : Hold (setD 4 c__law_relation_1 (rE n way mu .no .no .no .no .no .no .no)) (InR n way mu) := by
    refine set4 nos ?_
    refine rows_draw (n := n) (by omega) rfl rfl fun a ha => ?_
    refine row_draw (n := n) (by omega) rfl rfl (by simp) fun b hb => ?_
    simp only [runD, seqD, ifD, setD, asgD, parD, par3D, setV, extD, appD, ownAt, vD, vA, oA, kA, fzA, bin, tB, tNot, tAnd, tOr, nA, andA, orA, ifA, chA, a0, aC, b0, bC, cal, calK, isA, is2A, slA, o0, oI, ixL, itS, itZ, itE, itE2, reprL, mulOwn, gN, g0, lamA, xO, sNil, sRet, sEx, sErr, sBk, sCt, sShare, bind_ret, bind_err, slA0, slAp, slAf, slAs, slD0, slDo, slDs, calling, toB, toD, toS, toI, frz, dataA, allS, mkTup, mkLst, itemsL, itemsT, share, share1, tupG, consG, List.append_nil, List.replicate, List.getElem?_cons_zero, List.getElem?_cons_succ, List.cons_append, List.nil_append, Nat.sub_self, List.length_cons, List.length_nil, List.set_cons_zero, List.set_cons_succ, List.foldl_cons, List.foldl_nil, if_true, if_false, ite_true, ite_false, reduceCtorEq, Nat.reduceAdd, Nat.reduceSub, Nat.reduceLeDiff, Bool.not_true, Bool.not_false, Bool.false_eq_true, pick, List.filterMap_cons, List.filterMap_nil]
    simp only [hold_bind]
    refine draw_int (n := 5) (by omega) (by omega) rfl fun d hd => ?_
    simp only [runD, seqD, ifD, setD, asgD, parD, par3D, setV, extD, appD, ownAt, vD, vA, oA, kA, fzA, bin, tB, tNot, tAnd, tOr, nA, andA, orA, ifA, chA, a0, aC, b0, bC, cal, calK, isA, is2A, slA, o0, oI, ixL, itS, itZ, itE, itE2, reprL, mulOwn, gN, g0, lamA, xO, sNil, sRet, sEx, sErr, sBk, sCt, sShare, bind_ret, bind_err, slA0, slAp, slAf, slAs, slD0, slDo, slDs, calling, toB, toD, toS, toI, frz, dataA, allS, mkTup, mkLst, itemsL, itemsT, share, share1, tupG, consG, List.append_nil, List.replicate, List.getElem?_cons_zero, List.getElem?_cons_succ, List.cons_append, List.nil_append, Nat.sub_self, List.length_cons, List.length_nil, List.set_cons_zero, List.set_cons_succ, List.foldl_cons, List.foldl_nil, if_true, if_false, ite_true, ite_false, reduceCtorEq, Nat.reduceAdd, Nat.reduceSub, Nat.reduceLeDiff, Bool.not_true, Bool.not_false, Bool.false_eq_true, pick, List.filterMap_cons, List.filterMap_nil, hold_ret]
    rw [lt_int]
    exact trivial
  refine s2.mono fun o ho => ?_
  -- way 0
  obtain ⟨ρ, e, h⟩ := way_if (i := 0) (k := 0) rfl ho (g := seqD (setD 4 (c__law_relation_2)) (forD (itR (oA (bin addD (oA (kA (.int 1))) (oA (cal (calling 2 d__law_draw) (aC (vA 0) (aC (kA (.int 3)) (a0)))))))) (gN 7) (lb__law_relation_0))) fun L x5 x6 x7 x8 x9 x10 hl hL hx => by
    refine hseq ((set4 hx (c := c__law_relation_2) ?_).mono fun o ho => ?_)
    · refine rows_draw (n := n) (by omega) rfl (notOwn_of (x := x6) rfl (hx x6 (by simp))) fun a ha => ?_
      exact ⟨[], rfl, lot_nil n⟩
    · obtain ⟨L, y5, y6, y7, y8, y9, y10, rfl, k1, k2, k3⟩ := ho
      refine ⟨_, rfl, ?_⟩
      unfold forD
      refine Hold.bind' (itR_hold ?_)
      have e1 : ∀ d : Nat, addD (.int 1) (iD d) = .ret (.sh (iD (1 + d))) := fun d => int_iD 1 d
      have h3 : Hold (d__law_draw [.pot, .sh (.int 3)]) fun av => ∃ d, d < 3 ∧ av = .sh (iD d) := draw_int (n := 3) (by omega) (by omega) rfl fun d hd => ⟨d, hd, rfl⟩
      show Hold ((((d__law_draw [.pot, .sh (.int 3)]).bind toD).bind fun y => addD (.int 1) y).bind toD) _
      refine Hold.bind' (Hold.bind' (Hold.bind' (h3.mono fun av ⟨d, hd, e⟩ => ?_)))
      subst e
      refine hold_of (a := iD d) rfl (hold_of (e1 d) (hold_of (a := iD (1 + d)) rfl ⟨1 + d, rfl, by omega, ?_⟩))
      refine (forH (g := gN 7) (body := lb__law_relation_0) (fun ρ => InR n way mu (.nx ρ)) _ _ ⟨L, y5, y6, y7, y8, y9, y10, rfl, k1, k2, k3⟩ fun ρ hI d hd => ?_).mono fun o ⟨ρ', e, hI⟩ => by rw [e]; exact hI
      obtain ⟨L, z5, z6, z7, z8, z9, z10, er, j1, j2, j3⟩ := hI
      obtain rfl := Out.nx.inj er
      show Hold (lb__law_relation_0 (rE n way mu (.own (L.map encN)) z5 z6 (.sh d) z8 z9 z10)) _
      refine (turn0 h2 L j1 j2 fun x hx ds => ?_).mono fun o ho => ?_
      · rcases List.mem_cons.mp hx with rfl | hx
        · exact j3 _ (by simp) ds
        rcases List.mem_cons.mp hx with rfl | hx
        · exact j3 _ (by simp) ds
        rcases List.mem_cons.mp hx with rfl | hx
        · intro z; cases z
        · exact j3 x (List.mem_cons_of_mem _ (List.mem_cons_of_mem _ (List.mem_cons_of_mem _ hx))) ds
      · obtain ⟨L2, w5, w6, w7, w8, w9, w10, e, r⟩ := ho
        exact ⟨_, .inl e, L2, w5, w6, w7, w8, w9, w10, rfl, r⟩
  subst e
  refine ⟨_, rfl, hseq (h.mono fun o ho => ?_)⟩
  -- way 1
  obtain ⟨ρ, e, h⟩ := way_if (i := 1) (k := 1) rfl ho (g := setD 4 (c__law_relation_8)) fun L x5 x6 x7 x8 x9 x10 hl hL hx => by
    refine set4 hx ?_
    refine rows_draw (n := n) (by omega) rfl (notOwn_of (x := x6) rfl (hx x6 (by simp))) fun a ha => ?_
    refine row_draw (n := n) (by omega) rfl (notOwn_of (x := x5) rfl (hx x5 (by simp))) (by simp) fun b hb => ?_
    simp only [runD, seqD, ifD, setD, asgD, parD, par3D, setV, extD, appD, ownAt, vD, vA, oA, kA, fzA, bin, tB, tNot, tAnd, tOr, nA, andA, orA, ifA, chA, a0, aC, b0, bC, cal, calK, isA, is2A, slA, o0, oI, ixL, itS, itZ, itE, itE2, reprL, mulOwn, gN, g0, lamA, xO, sNil, sRet, sEx, sErr, sBk, sCt, sShare, bind_ret, bind_err, slA0, slAp, slAf, slAs, slD0, slDo, slDs, calling, toB, toD, toS, toI, frz, dataA, allS, mkTup, mkLst, itemsL, itemsT, share, share1, tupG, consG, List.append_nil, List.replicate, List.getElem?_cons_zero, List.getElem?_cons_succ, List.cons_append, List.nil_append, Nat.sub_self, List.length_cons, List.length_nil, List.set_cons_zero, List.set_cons_succ, List.foldl_cons, List.foldl_nil, if_true, if_false, ite_true, ite_false, reduceCtorEq, Nat.reduceAdd, Nat.reduceSub, Nat.reduceLeDiff, Bool.not_true, Bool.not_false, Bool.false_eq_true, pick, List.filterMap_cons, List.filterMap_nil, ne_len]
    simp only [hold_bind]
    refine draw_int (n := 9) (by omega) (by omega) rfl fun d hd => ?_
    have eg : ∀ i : Int, gtD (iD d) (.int i) = .ret (.sh (.bool (decide (i < (d : Int))))) := fun _ => rfl
    simp only [runD, seqD, ifD, setD, asgD, parD, par3D, setV, extD, appD, ownAt, vD, vA, oA, kA, fzA, bin, tB, tNot, tAnd, tOr, nA, andA, orA, ifA, chA, a0, aC, b0, bC, cal, calK, isA, is2A, slA, o0, oI, ixL, itS, itZ, itE, itE2, reprL, mulOwn, gN, g0, lamA, xO, sNil, sRet, sEx, sErr, sBk, sCt, sShare, bind_ret, bind_err, slA0, slAp, slAf, slAs, slD0, slDo, slDs, calling, toB, toD, toS, toI, frz, dataA, allS, mkTup, mkLst, itemsL, itemsT, share, share1, tupG, consG, List.append_nil, List.replicate, List.getElem?_cons_zero, List.getElem?_cons_succ, List.cons_append, List.nil_append, Nat.sub_self, List.length_cons, List.length_nil, List.set_cons_zero, List.set_cons_succ, List.foldl_cons, List.foldl_nil, if_true, if_false, ite_true, ite_false, reduceCtorEq, Nat.reduceAdd, Nat.reduceSub, Nat.reduceLeDiff, Bool.not_true, Bool.not_false, Bool.false_eq_true, pick, List.filterMap_cons, List.filterMap_nil, hold_ret, eg, eq_bool]
  subst e
  refine ⟨_, rfl, hseq (h.mono fun o ho => ?_)⟩
  -- way 2
  obtain ⟨ρ, e, h⟩ := way_if (i := 2) (k := 2) rfl ho (g := setD 4 (c__law_relation_10)) fun L x5 x6 x7 x8 x9 x10 hl hL hx => by
    refine set4 hx ?_
    refine rows_draw (n := n) (by omega) rfl (notOwn_of (x := x6) rfl (hx x6 (by simp))) fun a ha => ?_
    refine row_draw (n := n) (by omega) rfl (notOwn_of (x := x5) rfl (hx x5 (by simp))) (by simp) fun b hb => ?_
    have eg : geD (iD b) (iD a) = .ret (.sh (.bool (decide ((a : Int) ≤ (b : Int))))) := rfl
    simp only [runD, seqD, ifD, setD, asgD, parD, par3D, setV, extD, appD, ownAt, vD, vA, oA, kA, fzA, bin, tB, tNot, tAnd, tOr, nA, andA, orA, ifA, chA, a0, aC, b0, bC, cal, calK, isA, is2A, slA, o0, oI, ixL, itS, itZ, itE, itE2, reprL, mulOwn, gN, g0, lamA, xO, sNil, sRet, sEx, sErr, sBk, sCt, sShare, bind_ret, bind_err, slA0, slAp, slAf, slAs, slD0, slDo, slDs, calling, toB, toD, toS, toI, frz, dataA, allS, mkTup, mkLst, itemsL, itemsT, share, share1, tupG, consG, List.append_nil, List.replicate, List.getElem?_cons_zero, List.getElem?_cons_succ, List.cons_append, List.nil_append, Nat.sub_self, List.length_cons, List.length_nil, List.set_cons_zero, List.set_cons_succ, List.foldl_cons, List.foldl_nil, if_true, if_false, ite_true, ite_false, reduceCtorEq, Nat.reduceAdd, Nat.reduceSub, Nat.reduceLeDiff, Bool.not_true, Bool.not_false, Bool.false_eq_true, pick, List.filterMap_cons, List.filterMap_nil, hold_ret, eg]
  subst e
  refine ⟨_, rfl, hseq (h.mono fun o ho => ?_)⟩
  -- the end
  obtain ⟨L, x5, x6, x7, x8, x9, x10, rfl, k1, k2, k3⟩ := ho
  refine ⟨_, rfl, ?_⟩
  obtain ⟨R, eR⟩ := rel_of_rows k1 k2
  have l1 : c__law_relation_11 (rE n way mu (.sh (.list (L.map encN))) x5 x6 x7 x8 x9 x10) = .ret (.own (L.map encT)) := by
    refine lcD_eq (ds := L.map encN) rfl (notOwn_of (x := x10) rfl (k3 x10 (by simp))) (lcN1 (e := encN) _ L fun l hl => ?_)
    simp only [runD, seqD, ifD, setD, asgD, parD, par3D, setV, extD, appD, ownAt, vD, vA, oA, kA, fzA, bin, tB, tNot, tAnd, tOr, nA, andA, orA, ifA, chA, a0, aC, b0, bC, cal, calK, isA, is2A, slA, o0, oI, ixL, itS, itZ, itE, itE2, reprL, mulOwn, gN, g0, lamA, xO, sNil, sRet, sEx, sErr, sBk, sCt, sShare, bind_ret, bind_err, slA0, slAp, slAf, slAs, slD0, slDo, slDs, calling, toB, toD, toS, toI, frz, dataA, allS, mkTup, mkLst, itemsL, itemsT, share, share1, tupG, consG, List.append_nil, List.replicate, List.getElem?_cons_zero, List.getElem?_cons_succ, List.cons_append, List.nil_append, Nat.sub_self, List.length_cons, List.length_nil, List.set_cons_zero, List.set_cons_succ, List.foldl_cons, List.foldl_nil, if_true, if_false, ite_true, ite_false, reduceCtorEq, Nat.reduceAdd, Nat.reduceSub, Nat.reduceLeDiff, Bool.not_true, Bool.not_false, Bool.false_eq_true, pick, List.filterMap_cons, List.filterMap_nil]
    rfl
  refine hold_of (a := .rt (.sh (encF n R))) ?_ ⟨_, rfl, R, rfl⟩
  show sRet (cal tupleD (bC (oA (c__law_relation_11)) (b0))) (rE n way mu (.sh (.list (L.map encN))) x5 x6 x7 x8 x9 x10) = _
  simp only [runD, seqD, ifD, setD, asgD, parD, par3D, setV, extD, appD, ownAt, vD, vA, oA, kA, fzA, bin, tB, tNot, tAnd, tOr, nA, andA, orA, ifA, chA, a0, aC, b0, bC, cal, calK, isA, is2A, slA, o0, oI, ixL, itS, itZ, itE, itE2, reprL, mulOwn, gN, g0, lamA, xO, sNil, sRet, sEx, sErr, sBk, sCt, sShare, bind_ret, bind_err, slA0, slAp, slAf, slAs, slD0, slDo, slDs, calling, toB, toD, toS, toI, frz, dataA, allS, mkTup, mkLst, itemsL, itemsT, share, share1, tupG, consG, List.append_nil, List.replicate, List.getElem?_cons_zero, List.getElem?_cons_succ, List.cons_append, List.nil_append, Nat.sub_self, List.length_cons, List.length_nil, List.set_cons_zero, List.set_cons_succ, List.foldl_cons, List.foldl_nil, if_true, if_false, ite_true, ite_false, reduceCtorEq, Nat.reduceAdd, Nat.reduceSub, Nat.reduceLeDiff, Bool.not_true, Bool.not_false, Bool.false_eq_true, pick, List.filterMap_cons, List.filterMap_nil, l1, tup_l, eR]
end
end Mf
end
section
set_option Elab.async false
set_option linter.all false
set_option autoImplicit false
set_option maxRecDepth 100000
set_option maxHeartbeats 1600000
/-! K5 (k71): lots are right. -/
namespace Mf
open PySem Dn Wk
open Classical

section
variable {n : Nat} {R : Nat → Nat → Bool} {l m : List Nat} {p q : List Nat × List Nat}
theorem rp_C (hn : n ≤ 6) (h : Lot n p.1) (h' : Lot n p.2) : Rp 100 2 (encC p) := by
  have a := rp_T (l := p.1) (n := 6) (fun a ha => by have := h.2 a ha; omega) (by have := h.len; omega)
  have b := rp_T (l := p.2) (n := 6) (fun a ha => by have := h'.2 a ha; omega) (by have := h'.len; omega)
  exact (Rp.tuple (n := 2) (Rp.two a b) (by simp)).mono (by decide) (by decide)
theorem repr_l {k m : Nat} {xs : List PyData} (h : ∀ x ∈ xs, Rp k m x) (hk : k ≤ 10000) (hm : m ≤ 60) (hl : xs.length ≤ 500) : reprD [.list xs] = .ret (.sh (.str (PyData.shown (.list xs)))) :=
  repr_list (Rp.list h hl) (by omega) (by omega)
theorem mem_CC {L : List (List Nat × List Nat)} : memD not (encC p) (.list (L.map encC)) = .ret (.sh (.bool (!decide (p ∈ L)))) := by
  have key : encC p ∈ L.map encC ↔ p ∈ L := ⟨fun h => by
    obtain ⟨q, hq, e⟩ := List.mem_map.mp h
    rw [← encC_inj e]
    exact hq, fun h => List.mem_map.mpr ⟨p, h, rfl⟩⟩
  have hL : Ok 3 (.list (L.map encC)) := Ok.list fun x hx => by
    obtain ⟨q, _, rfl⟩ := List.mem_map.mp hx
    exact ok_encC q
  rw [memD_ok (ds := L.map encC) rfl (ok_encC p) hL (by decide) (by decide)]
  congr 4
  exact decide_eq_decide.mpr key
theorem eq_NN {p q : List Nat} : eqA (.list (p.map iD)) (.list (q.map iD)) = .ret (.sh (.bool (decide (p = q)))) := by
  show eqA (encN p) (encN q) = _
  rw [eqA_d (ok_encN p) (ok_encN q)]
  congr 3
  exact decide_eq_decide.mpr ⟨encN_inj, fun h => by rw [h]⟩
theorem one_CP (h : p ∈ CP n R) {f : List Nat × List Nat → Bool} (hf : ∀ q ∈ CP n R, f q = true ↔ q = p) : (CP n R).filter f = [p] := by
  refine SS.uniq (enc := encC) ((CP_SS n R).filter _) (List.pairwise_singleton _ _) fun q => ?_
  rw [List.mem_filter, List.mem_singleton]
  constructor
  · rintro ⟨h1, h2⟩
    exact (hf q h1).mp h2
  · rintro rfl
    exact ⟨h, (hf q h).mpr rfl⟩
theorem met_CP (hp : p ∈ CP n R) (hq : q ∈ CP n R) : metC n R p q ∈ CP n R := by
  obtain ⟨a1, a2, a3, a4⟩ := mem_CP.mp hp
  exact mem_CP.mpr ⟨lot_cap a1, lot_shr _ _ _, met_closed hp hq, rfl⟩
theorem join_CP (hp : p ∈ CP n R) (hq : q ∈ CP n R) : joinC n R p q ∈ CP n R := by
  obtain ⟨a1, a2, a3, a4⟩ := mem_CP.mp hp
  exact mem_CP.mpr ⟨lot_stn _ _ _, lot_cap a2, rfl, join_closed hp hq⟩
theorem met_one (hp : p ∈ CP n R) (hq : q ∈ CP n R) : (CP n R).filter (fun c => decide (c.1 = cap p.1 q.1)) = [metC n R p q] := one_CP (met_CP hp hq) fun c hc => by
  rw [decide_eq_true_iff]
  constructor
  · intro e
    obtain ⟨_, _, _, e2⟩ := mem_CP.mp hc
    exact Prod.ext e (by rw [← e2, e]; rfl)
  · rintro rfl
    rfl
theorem join_one (hp : p ∈ CP n R) (hq : q ∈ CP n R) : (CP n R).filter (fun c => decide (c.2 = cap p.2 q.2)) = [joinC n R p q] := one_CP (join_CP hp hq) fun c hc => by
  rw [decide_eq_true_iff]
  constructor
  · intro e
    obtain ⟨_, _, e2, _⟩ := mem_CP.mp hc
    exact Prod.ext (by rw [← e2, e]; rfl) e
  · rintro rfl
    rfl
noncomputable abbrev lE (n : Nat) (R : Nat → Nat → Bool) (x4 x5 x6 x7 x8 x9 x10 x11 x12 x15 : AV) : Dn.Env := [.pot, .sh (encF n R), .sh (.list ((LL n).map encT)), .sh (.list ((CP n R).map encC)), x4, x5, x6, x7, x8, x9, x10, x11, x12, .no, .no, x15]
theorem CP_ne (n : Nat) (R : Nat → Nat → Bool) : ∃ p, p ∈ CP n R := ⟨(stn n R (shr n R []), shr n R []), mem_CP.mpr ⟨lot_stn _ _ _, lot_shr _ _ _, rfl, shr3 (lot_nil n)⟩⟩
theorem pick_lot (hn : n ≤ 6) : Hold (d__law_pick [.pot, .sh (.list ((LL n).map encT))]) fun av => ∃ l, Lot n l ∧ av = .sh (encT l) := by
  have h64 := LL_64 hn
  have h0 : 0 < (LL n).length := by rw [LL_len]; exact Nat.pow_pos (by decide)
  refine (e__law_pick (by rw [List.length_map]; exact h0) (by rw [List.length_map]; omega)).mono fun av ⟨d, hd, e⟩ => ?_
  obtain ⟨l, hl, rfl⟩ := List.mem_map.mp hd
  exact ⟨l, mem_LL.mp hl, e⟩
theorem pick_couple (hn : n ≤ 6) : Hold (d__law_pick [.pot, .sh (.list ((CP n R).map encC))]) fun av => ∃ p, p ∈ CP n R ∧ av = .sh (encC p) := by
  have h64 := CP_64 (R := R) hn
  have h0 : 0 < (CP n R).length := by
    obtain ⟨p, hp⟩ := CP_ne n R
    exact List.length_pos_of_mem hp
  refine (e__law_pick (by rw [List.length_map]; exact h0) (by rw [List.length_map]; omega)).mono fun av ⟨d, hd, e⟩ => ?_
  obtain ⟨p, hp, rfl⟩ := List.mem_map.mp hd
  exact ⟨p, hp, e⟩
theorem lots_body (h1 : 1 ≤ n) (h2 : n ≤ 6) {x4 x5 x6 x7 x8 x9 x10 x11 x12 x15 : AV} :
    Hold (lb__law_lots_right_0 (lE n R x4 x5 x6 x7 x8 x9 x10 x11 x12 x15)) fun o => ∃ x5 x6 x7 x8 x9 x10 x11 x12 x15, o = .nx (lE n R x4 x5 x6 x7 x8 x9 x10 x11 x12 x15) := by
  have n1 : n ≤ 1000 := by omega
  unfold lb__law_lots_right_0
  refine hseq (hset (hfz ((?_ : Hold (d__law_pick [.pot, .sh (.list ((LL n).map encT))]) _))))
  refine (pick_lot h2).mono fun av ⟨l, hl, e⟩ => ?_
  subst e
  refine ⟨(by intro z; cases z), lE n R x4 (.sh (encT l)) x6 x7 x8 x9 x10 x11 x12 x15, rfl, ?_⟩
  -- late
  have s6 : setD 6 (fzA (cal (calling 2 d__law_common) (aC (vA 1) (aC (vA 5) (a0))))) (lE n R x4 (.sh (encT l)) x6 x7 x8 x9 x10 x11 x12 x15) = .ret (.nx (lE n R x4 (.sh (encT l)) (.sh (encT (shr n R l))) x7 x8 x9 x10 x11 x12 x15)) := by
    simp only [lE, runD, seqD, ifD, setD, asgD, parD, par3D, setV, extD, appD, ownAt, vD, vA, oA, kA, fzA, bin, tB, tNot, tAnd, tOr, nA, andA, orA, ifA, chA, a0, aC, b0, bC, cal, calK, isA, is2A, slA, o0, oI, ixL, itS, itZ, itE, itE2, reprL, mulOwn, gN, g0, lamA, xO, sNil, sRet, sEx, sErr, sBk, sCt, sShare, bind_ret, bind_err, slA0, slAp, slAf, slAs, slD0, slDo, slDs, calling, toB, toD, toS, toI, frz, dataA, allS, mkTup, mkLst, itemsL, itemsT, share, share1, tupG, consG, List.append_nil, List.replicate, List.getElem?_cons_zero, List.getElem?_cons_succ, List.cons_append, List.nil_append, Nat.sub_self, List.length_cons, List.length_nil, List.set_cons_zero, List.set_cons_succ, List.foldl_cons, List.foldl_nil, if_true, if_false, ite_true, ite_false, reduceCtorEq, Nat.reduceAdd, Nat.reduceSub, Nat.reduceLeDiff, Bool.not_true, Bool.not_false, Bool.false_eq_true, pick, List.filterMap_cons, List.filterMap_nil, e__law_common n1 hl]
  rw [seq_nx s6]
  have s7 : parD 7 8 (fzA (cal mkTup (aC (cal (calling 2 d__law_standing) (aC (vA 1) (aC (vA 6) (a0)))) (aC (vA 6) (a0))))) (fzA (cal (calling 2 d__law_standing) (aC (vA 1) (aC (vA 5) (a0))))) (lE n R x4 (.sh (encT l)) (.sh (encT (shr n R l))) x7 x8 x9 x10 x11 x12 x15) =
      .ret (.nx (lE n R x4 (.sh (encT l)) (.sh (encT (shr n R l))) (.sh (encC (stn n R (shr n R l), shr n R l))) (.sh (encT (stn n R l))) x9 x10 x11 x12 x15)) := by
    have z2 : (2 : Nat) ≤ 4000 := by omega
    simp only [lE, runD, seqD, ifD, setD, asgD, parD, par3D, setV, extD, appD, ownAt, vD, vA, oA, kA, fzA, bin, tB, tNot, tAnd, tOr, nA, andA, orA, ifA, chA, a0, aC, b0, bC, cal, calK, isA, is2A, slA, o0, oI, ixL, itS, itZ, itE, itE2, reprL, mulOwn, gN, g0, lamA, xO, sNil, sRet, sEx, sErr, sBk, sCt, sShare, bind_ret, bind_err, slA0, slAp, slAf, slAs, slD0, slDo, slDs, calling, toB, toD, toS, toI, frz, dataA, allS, mkTup, mkLst, itemsL, itemsT, share, share1, tupG, consG, List.append_nil, List.replicate, List.getElem?_cons_zero, List.getElem?_cons_succ, List.cons_append, List.nil_append, Nat.sub_self, List.length_cons, List.length_nil, List.set_cons_zero, List.set_cons_succ, List.foldl_cons, List.foldl_nil, if_true, if_false, ite_true, ite_false, reduceCtorEq, Nat.reduceAdd, Nat.reduceSub, Nat.reduceLeDiff, Bool.not_true, Bool.not_false, Bool.false_eq_true, pick, List.filterMap_cons, List.filterMap_nil, e__law_standing (lot_shr n R l), e__law_standing hl, z2]
  rw [seq_nx s7]
  have s9 : setD 9 (fzA (cal mkTup (aC (vA 8) (aC (cal (calling 2 d__law_common) (aC (vA 1) (aC (vA 8) (a0)))) (a0))))) (lE n R x4 (.sh (encT l)) (.sh (encT (shr n R l))) (.sh (encC (stn n R (shr n R l), shr n R l))) (.sh (encT (stn n R l))) x9 x10 x11 x12 x15) =
      .ret (.nx (lE n R x4 (.sh (encT l)) (.sh (encT (shr n R l))) (.sh (encC (stn n R (shr n R l), shr n R l))) (.sh (encT (stn n R l))) (.sh (encC (stn n R l, shr n R (stn n R l)))) x10 x11 x12 x15)) := by
    have z2 : (2 : Nat) ≤ 4000 := by omega
    simp only [lE, runD, seqD, ifD, setD, asgD, parD, par3D, setV, extD, appD, ownAt, vD, vA, oA, kA, fzA, bin, tB, tNot, tAnd, tOr, nA, andA, orA, ifA, chA, a0, aC, b0, bC, cal, calK, isA, is2A, slA, o0, oI, ixL, itS, itZ, itE, itE2, reprL, mulOwn, gN, g0, lamA, xO, sNil, sRet, sEx, sErr, sBk, sCt, sShare, bind_ret, bind_err, slA0, slAp, slAf, slAs, slD0, slDo, slDs, calling, toB, toD, toS, toI, frz, dataA, allS, mkTup, mkLst, itemsL, itemsT, share, share1, tupG, consG, List.append_nil, List.replicate, List.getElem?_cons_zero, List.getElem?_cons_succ, List.cons_append, List.nil_append, Nat.sub_self, List.length_cons, List.length_nil, List.set_cons_zero, List.set_cons_succ, List.foldl_cons, List.foldl_nil, if_true, if_false, ite_true, ite_false, reduceCtorEq, Nat.reduceAdd, Nat.reduceSub, Nat.reduceLeDiff, Bool.not_true, Bool.not_false, Bool.false_eq_true, pick, List.filterMap_cons, List.filterMap_nil, e__law_common n1 (lot_stn n R l), z2]
  rw [seq_nx s9]
  have nearC : (stn n R (shr n R l), shr n R l) ∈ CP n R := mem_CP.mpr ⟨lot_stn _ _ _, lot_shr _ _ _, rfl, shr3 hl⟩
  have farC : (stn n R l, shr n R (stn n R l)) ∈ CP n R := mem_CP.mpr ⟨lot_stn _ _ _, lot_shr _ _ _, stn3 hl, rfl⟩
  generalize hnear : (stn n R (shr n R l), shr n R l) = near at nearC
  generalize hfar : (stn n R l, shr n R (stn n R l)) = far at farC
  obtain ⟨ln1, ln2, _⟩ := mem_CP.mp nearC
  obtain ⟨lf1, lf2, _⟩ := mem_CP.mp farC
  have rpn := rp_C h2 ln1 ln2
  have rpf := rp_C h2 lf1 lf2
  have eb1 := e_block_from (R := R) h1 h2 hl
  have eb2 := e_block_to (R := R) h1 h2 hl
  rw [hnear] at eb1
  rw [hfar] at eb2
  have r4 : reprD [.list [encC near, encC near, encC far, encC far]] = .ret (.sh (.str (PyData.shown (.list [encC near, encC near, encC far, encC far])))) := repr_l (k := 100) (m := 2) (fun x hx => by
    rcases List.mem_cons.mp hx with rfl | hx
    · exact rpn
    rcases List.mem_cons.mp hx with rfl | hx
    · exact rpn
    rcases List.mem_cons.mp hx with rfl | hx
    · exact rpf
    · rw [List.mem_singleton.mp hx]; exact rpf) (by decide) (by decide) (by simp)
  have z4 : (4 : Nat) ≤ 4000 := by omega
  refine (congrArg (fun t => Hold t _) (seq_nx (ρ' := lE n R x4 (.sh (encT l)) (.sh (encT (shr n R l))) (.sh (encC near)) (.sh (encT (stn n R l))) (.sh (encC far)) x10 x11 x12 x15) (if_f (f := sRet (kA (.bool false))) (g := sNil) ?_))).mpr ?_
  · simp only [lE, runD, seqD, ifD, setD, asgD, parD, par3D, setV, extD, appD, ownAt, vD, vA, oA, kA, fzA, bin, tB, tNot, tAnd, tOr, nA, andA, orA, ifA, chA, a0, aC, b0, bC, cal, calK, isA, is2A, slA, o0, oI, ixL, itS, itZ, itE, itE2, reprL, mulOwn, gN, g0, lamA, xO, sNil, sRet, sEx, sErr, sBk, sCt, sShare, bind_ret, bind_err, slA0, slAp, slAf, slAs, slD0, slDo, slDs, calling, toB, toD, toS, toI, frz, dataA, allS, mkTup, mkLst, itemsL, itemsT, share, share1, tupG, consG, List.append_nil, List.replicate, List.getElem?_cons_zero, List.getElem?_cons_succ, List.cons_append, List.nil_append, Nat.sub_self, List.length_cons, List.length_nil, List.set_cons_zero, List.set_cons_succ, List.foldl_cons, List.foldl_nil, if_true, if_false, ite_true, ite_false, reduceCtorEq, Nat.reduceAdd, Nat.reduceSub, Nat.reduceLeDiff, Bool.not_true, Bool.not_false, Bool.false_eq_true, pick, List.filterMap_cons, List.filterMap_nil, eb1, eb2, z4, r4, ne_S, decide_true]
  refine (congrArg (fun t => Hold t _) (seq_nx (ρ' := lE n R x4 (.sh (encT l)) (.sh (encT (shr n R l))) (.sh (encC near)) (.sh (encT (stn n R l))) (.sh (encC far)) x10 x11 x12 x15) (if_f (f := sRet (kA (.bool false))) (g := sNil) ?_))).mpr ?_
  · have ei : isBD not (.bool true) (.bool true) = .ret (.sh (.bool false)) := rfl
    simp only [lE, runD, seqD, ifD, setD, asgD, parD, par3D, setV, extD, appD, ownAt, vD, vA, oA, kA, fzA, bin, tB, tNot, tAnd, tOr, nA, andA, orA, ifA, chA, a0, aC, b0, bC, cal, calK, isA, is2A, slA, o0, oI, ixL, itS, itZ, itE, itE2, reprL, mulOwn, gN, g0, lamA, xO, sNil, sRet, sEx, sErr, sBk, sCt, sShare, bind_ret, bind_err, slA0, slAp, slAf, slAs, slD0, slDo, slDs, calling, toB, toD, toS, toI, frz, dataA, allS, mkTup, mkLst, itemsL, itemsT, share, share1, tupG, consG, List.append_nil, List.replicate, List.getElem?_cons_zero, List.getElem?_cons_succ, List.cons_append, List.nil_append, Nat.sub_self, List.length_cons, List.length_nil, List.set_cons_zero, List.set_cons_succ, List.foldl_cons, List.foldl_nil, if_true, if_false, ite_true, ite_false, reduceCtorEq, Nat.reduceAdd, Nat.reduceSub, Nat.reduceLeDiff, Bool.not_true, Bool.not_false, Bool.false_eq_true, pick, List.filterMap_cons, List.filterMap_nil, mem_CC, decide_eq_true nearC, decide_eq_true farC, e_lot_of_all h1 h2 hl, ne_TT, decide_true, e_is_closed_couple h1 h2 nearC, ei]
  -- two couples
  have pk : Hold (asgD (tupG 2 (consG (gN 10) (consG (gN 11) (g0)))) (cal mkTup (aC (cal (calling 2 d__law_pick) (aC (vA 0) (aC (vA 3) (a0)))) (aC (cal (calling 2 d__law_pick) (aC (vA 0) (aC (vA 3) (a0)))) (a0)))) (lE n R x4 (.sh (encT l)) (.sh (encT (shr n R l))) (.sh (encC near)) (.sh (encT (stn n R l))) (.sh (encC far)) x10 x11 x12 x15)) fun o => ∃ p q, p ∈ CP n R ∧ q ∈ CP n R ∧ o = .nx (lE n R x4 (.sh (encT l)) (.sh (encT (shr n R l))) (.sh (encC near)) (.sh (encT (stn n R l))) (.sh (encC far)) (.sh (encC p)) (.sh (encC q)) x12 x15) := by
    show Hold ((((d__law_pick [.pot, .sh (.list ((CP n R).map encC))]).bind fun a => ((d__law_pick [.pot, .sh (.list ((CP n R).map encC))]).bind fun a => (T.ret []).bind fun as => T.ret (frz a :: as)).bind fun as => T.ret (frz a :: as)).bind mkTup).bind toS |>.bind _) _
    refine Hold.bind' (Hold.bind' (Hold.bind' (Hold.bind' ((pick_couple h2).mono fun av ⟨p, hp, e1⟩ => Hold.bind' (Hold.bind' ((pick_couple h2).mono fun aw ⟨q, hq, e2⟩ => ?_))))))
    subst e1 e2
    exact ⟨p, q, hp, hq, rfl⟩
  refine hseq (pk.mono fun o ⟨p, q, hp, hq, ho⟩ => ⟨_, ho, ?_⟩)
  obtain ⟨lp1, lp2, _⟩ := mem_CP.mp hp
  -- met, joined
  have c0 : ∀ c, c__law_lots_right_0 ((lE n R x4 (.sh (encT l)) (.sh (encT (shr n R l))) (.sh (encC near)) (.sh (encT (stn n R l))) (.sh (encC far)) (.sh (encC p)) (.sh (encC q)) x12 x15).set 13 c) = .ret (.own ((cap p.1 q.1).map iD)) := fun c => by
    refine lcD_eq (ds := p.1.map iD) (by simp only [lE, runD, seqD, ifD, setD, asgD, parD, par3D, setV, extD, appD, ownAt, vD, vA, oA, kA, fzA, bin, tB, tNot, tAnd, tOr, nA, andA, orA, ifA, chA, a0, aC, b0, bC, cal, calK, isA, is2A, slA, o0, oI, ixL, itS, itZ, itE, itE2, reprL, mulOwn, gN, g0, lamA, xO, sNil, sRet, sEx, sErr, sBk, sCt, sShare, bind_ret, bind_err, slA0, slAp, slAf, slAs, slD0, slDo, slDs, calling, toB, toD, toS, toI, frz, dataA, allS, mkTup, mkLst, itemsL, itemsT, share, share1, tupG, consG, List.append_nil, List.replicate, List.getElem?_cons_zero, List.getElem?_cons_succ, List.cons_append, List.nil_append, Nat.sub_self, List.length_cons, List.length_nil, List.set_cons_zero, List.set_cons_succ, List.foldl_cons, List.foldl_nil, if_true, if_false, ite_true, ite_false, reduceCtorEq, Nat.reduceAdd, Nat.reduceSub, Nat.reduceLeDiff, Bool.not_true, Bool.not_false, Bool.false_eq_true, pick, List.filterMap_cons, List.filterMap_nil, ix_C0, items_T]) rfl (lcN (e := iD) _ iD p.1 (fun a _ => ?_) fun a _ _ => rfl)
    simp only [lE, runD, seqD, ifD, setD, asgD, parD, par3D, setV, extD, appD, ownAt, vD, vA, oA, kA, fzA, bin, tB, tNot, tAnd, tOr, nA, andA, orA, ifA, chA, a0, aC, b0, bC, cal, calK, isA, is2A, slA, o0, oI, ixL, itS, itZ, itE, itE2, reprL, mulOwn, gN, g0, lamA, xO, sNil, sRet, sEx, sErr, sBk, sCt, sShare, bind_ret, bind_err, slA0, slAp, slAf, slAs, slD0, slDo, slDs, calling, toB, toD, toS, toI, frz, dataA, allS, mkTup, mkLst, itemsL, itemsT, share, share1, tupG, consG, List.append_nil, List.replicate, List.getElem?_cons_zero, List.getElem?_cons_succ, List.cons_append, List.nil_append, Nat.sub_self, List.length_cons, List.length_nil, List.set_cons_zero, List.set_cons_succ, List.foldl_cons, List.foldl_nil, if_true, if_false, ite_true, ite_false, reduceCtorEq, Nat.reduceAdd, Nat.reduceSub, Nat.reduceLeDiff, Bool.not_true, Bool.not_false, Bool.false_eq_true, pick, List.filterMap_cons, List.filterMap_nil, ix_C0, mem_T, id]
  have c1 : c__law_lots_right_1 (lE n R x4 (.sh (encT l)) (.sh (encT (shr n R l))) (.sh (encC near)) (.sh (encT (stn n R l))) (.sh (encC far)) (.sh (encC p)) (.sh (encC q)) x12 x15) = .ret (.own [encC (metC n R p q)]) := by
    have e : [encC (metC n R p q)] = ((CP n R).filter fun c => decide (c.1 = cap p.1 q.1)).map encC := by rw [met_one hp hq]; rfl
    rw [e]
    refine lcD_eq (ds := (CP n R).map encC) rfl rfl (lcN (e := encC) _ encC (CP n R) (fun c hc => ?_) fun c _ _ => rfl)
    have h := c0 (.sh (encC c))
    simp only [lE, runD, seqD, ifD, setD, asgD, parD, par3D, setV, extD, appD, ownAt, vD, vA, oA, kA, fzA, bin, tB, tNot, tAnd, tOr, nA, andA, orA, ifA, chA, a0, aC, b0, bC, cal, calK, isA, is2A, slA, o0, oI, ixL, itS, itZ, itE, itE2, reprL, mulOwn, gN, g0, lamA, xO, sNil, sRet, sEx, sErr, sBk, sCt, sShare, bind_ret, bind_err, slA0, slAp, slAf, slAs, slD0, slDo, slDs, calling, toB, toD, toS, toI, frz, dataA, allS, mkTup, mkLst, itemsL, itemsT, share, share1, tupG, consG, List.append_nil, List.replicate, List.getElem?_cons_zero, List.getElem?_cons_succ, List.cons_append, List.nil_append, Nat.sub_self, List.length_cons, List.length_nil, List.set_cons_zero, List.set_cons_succ, List.foldl_cons, List.foldl_nil, if_true, if_false, ite_true, ite_false, reduceCtorEq, Nat.reduceAdd, Nat.reduceSub, Nat.reduceLeDiff, Bool.not_true, Bool.not_false, Bool.false_eq_true, pick, List.filterMap_cons, List.filterMap_nil] at h
    simp only [lE, runD, seqD, ifD, setD, asgD, parD, par3D, setV, extD, appD, ownAt, vD, vA, oA, kA, fzA, bin, tB, tNot, tAnd, tOr, nA, andA, orA, ifA, chA, a0, aC, b0, bC, cal, calK, isA, is2A, slA, o0, oI, ixL, itS, itZ, itE, itE2, reprL, mulOwn, gN, g0, lamA, xO, sNil, sRet, sEx, sErr, sBk, sCt, sShare, bind_ret, bind_err, slA0, slAp, slAf, slAs, slD0, slDo, slDs, calling, toB, toD, toS, toI, frz, dataA, allS, mkTup, mkLst, itemsL, itemsT, share, share1, tupG, consG, List.append_nil, List.replicate, List.getElem?_cons_zero, List.getElem?_cons_succ, List.cons_append, List.nil_append, Nat.sub_self, List.length_cons, List.length_nil, List.set_cons_zero, List.set_cons_succ, List.foldl_cons, List.foldl_nil, if_true, if_false, ite_true, ite_false, reduceCtorEq, Nat.reduceAdd, Nat.reduceSub, Nat.reduceLeDiff, Bool.not_true, Bool.not_false, Bool.false_eq_true, pick, List.filterMap_cons, List.filterMap_nil, ix_C0, list_T, h, eq_NN]
  have s12 : setD 12 (c__law_lots_right_1) (lE n R x4 (.sh (encT l)) (.sh (encT (shr n R l))) (.sh (encC near)) (.sh (encT (stn n R l))) (.sh (encC far)) (.sh (encC p)) (.sh (encC q)) x12 x15) = .ret (.nx (lE n R x4 (.sh (encT l)) (.sh (encT (shr n R l))) (.sh (encC near)) (.sh (encT (stn n R l))) (.sh (encC far)) (.sh (encC p)) (.sh (encC q)) (.own [encC (metC n R p q)]) x15)) := set_ok c1 (by intro z; cases z)
  rw [seq_nx s12]
  have c2 : ∀ c, c__law_lots_right_2 ((lE n R x4 (.sh (encT l)) (.sh (encT (shr n R l))) (.sh (encC near)) (.sh (encT (stn n R l))) (.sh (encC far)) (.sh (encC p)) (.sh (encC q)) (.own [encC (metC n R p q)]) x15).set 13 c) = .ret (.own ((cap p.2 q.2).map iD)) := fun c => by
    refine lcD_eq (ds := p.2.map iD) (by simp only [lE, runD, seqD, ifD, setD, asgD, parD, par3D, setV, extD, appD, ownAt, vD, vA, oA, kA, fzA, bin, tB, tNot, tAnd, tOr, nA, andA, orA, ifA, chA, a0, aC, b0, bC, cal, calK, isA, is2A, slA, o0, oI, ixL, itS, itZ, itE, itE2, reprL, mulOwn, gN, g0, lamA, xO, sNil, sRet, sEx, sErr, sBk, sCt, sShare, bind_ret, bind_err, slA0, slAp, slAf, slAs, slD0, slDo, slDs, calling, toB, toD, toS, toI, frz, dataA, allS, mkTup, mkLst, itemsL, itemsT, share, share1, tupG, consG, List.append_nil, List.replicate, List.getElem?_cons_zero, List.getElem?_cons_succ, List.cons_append, List.nil_append, Nat.sub_self, List.length_cons, List.length_nil, List.set_cons_zero, List.set_cons_succ, List.foldl_cons, List.foldl_nil, if_true, if_false, ite_true, ite_false, reduceCtorEq, Nat.reduceAdd, Nat.reduceSub, Nat.reduceLeDiff, Bool.not_true, Bool.not_false, Bool.false_eq_true, pick, List.filterMap_cons, List.filterMap_nil, ix_C1, items_T]) rfl (lcN (e := iD) _ iD p.2 (fun a _ => ?_) fun a _ _ => rfl)
    simp only [lE, runD, seqD, ifD, setD, asgD, parD, par3D, setV, extD, appD, ownAt, vD, vA, oA, kA, fzA, bin, tB, tNot, tAnd, tOr, nA, andA, orA, ifA, chA, a0, aC, b0, bC, cal, calK, isA, is2A, slA, o0, oI, ixL, itS, itZ, itE, itE2, reprL, mulOwn, gN, g0, lamA, xO, sNil, sRet, sEx, sErr, sBk, sCt, sShare, bind_ret, bind_err, slA0, slAp, slAf, slAs, slD0, slDo, slDs, calling, toB, toD, toS, toI, frz, dataA, allS, mkTup, mkLst, itemsL, itemsT, share, share1, tupG, consG, List.append_nil, List.replicate, List.getElem?_cons_zero, List.getElem?_cons_succ, List.cons_append, List.nil_append, Nat.sub_self, List.length_cons, List.length_nil, List.set_cons_zero, List.set_cons_succ, List.foldl_cons, List.foldl_nil, if_true, if_false, ite_true, ite_false, reduceCtorEq, Nat.reduceAdd, Nat.reduceSub, Nat.reduceLeDiff, Bool.not_true, Bool.not_false, Bool.false_eq_true, pick, List.filterMap_cons, List.filterMap_nil, ix_C1, mem_T, id]
  have c3 : c__law_lots_right_3 (lE n R x4 (.sh (encT l)) (.sh (encT (shr n R l))) (.sh (encC near)) (.sh (encT (stn n R l))) (.sh (encC far)) (.sh (encC p)) (.sh (encC q)) (.own [encC (metC n R p q)]) x15) = .ret (.own [encC (joinC n R p q)]) := by
    have e : [encC (joinC n R p q)] = ((CP n R).filter fun c => decide (c.2 = cap p.2 q.2)).map encC := by rw [join_one hp hq]; rfl
    rw [e]
    refine lcD_eq (ds := (CP n R).map encC) rfl rfl (lcN (e := encC) _ encC (CP n R) (fun c hc => ?_) fun c _ _ => rfl)
    have h := c2 (.sh (encC c))
    simp only [lE, runD, seqD, ifD, setD, asgD, parD, par3D, setV, extD, appD, ownAt, vD, vA, oA, kA, fzA, bin, tB, tNot, tAnd, tOr, nA, andA, orA, ifA, chA, a0, aC, b0, bC, cal, calK, isA, is2A, slA, o0, oI, ixL, itS, itZ, itE, itE2, reprL, mulOwn, gN, g0, lamA, xO, sNil, sRet, sEx, sErr, sBk, sCt, sShare, bind_ret, bind_err, slA0, slAp, slAf, slAs, slD0, slDo, slDs, calling, toB, toD, toS, toI, frz, dataA, allS, mkTup, mkLst, itemsL, itemsT, share, share1, tupG, consG, List.append_nil, List.replicate, List.getElem?_cons_zero, List.getElem?_cons_succ, List.cons_append, List.nil_append, Nat.sub_self, List.length_cons, List.length_nil, List.set_cons_zero, List.set_cons_succ, List.foldl_cons, List.foldl_nil, if_true, if_false, ite_true, ite_false, reduceCtorEq, Nat.reduceAdd, Nat.reduceSub, Nat.reduceLeDiff, Bool.not_true, Bool.not_false, Bool.false_eq_true, pick, List.filterMap_cons, List.filterMap_nil] at h
    simp only [lE, runD, seqD, ifD, setD, asgD, parD, par3D, setV, extD, appD, ownAt, vD, vA, oA, kA, fzA, bin, tB, tNot, tAnd, tOr, nA, andA, orA, ifA, chA, a0, aC, b0, bC, cal, calK, isA, is2A, slA, o0, oI, ixL, itS, itZ, itE, itE2, reprL, mulOwn, gN, g0, lamA, xO, sNil, sRet, sEx, sErr, sBk, sCt, sShare, bind_ret, bind_err, slA0, slAp, slAf, slAs, slD0, slDo, slDs, calling, toB, toD, toS, toI, frz, dataA, allS, mkTup, mkLst, itemsL, itemsT, share, share1, tupG, consG, List.append_nil, List.replicate, List.getElem?_cons_zero, List.getElem?_cons_succ, List.cons_append, List.nil_append, Nat.sub_self, List.length_cons, List.length_nil, List.set_cons_zero, List.set_cons_succ, List.foldl_cons, List.foldl_nil, if_true, if_false, ite_true, ite_false, reduceCtorEq, Nat.reduceAdd, Nat.reduceSub, Nat.reduceLeDiff, Bool.not_true, Bool.not_false, Bool.false_eq_true, pick, List.filterMap_cons, List.filterMap_nil, ix_C1, list_T, h, eq_NN]
  have s15 : setD 15 (c__law_lots_right_3) (lE n R x4 (.sh (encT l)) (.sh (encT (shr n R l))) (.sh (encC near)) (.sh (encT (stn n R l))) (.sh (encC far)) (.sh (encC p)) (.sh (encC q)) (.own [encC (metC n R p q)]) x15) = .ret (.nx (lE n R x4 (.sh (encT l)) (.sh (encT (shr n R l))) (.sh (encC near)) (.sh (encT (stn n R l))) (.sh (encC far)) (.sh (encC p)) (.sh (encC q)) (.own [encC (metC n R p q)]) (.own [encC (joinC n R p q)]))) := set_ok c3 (by intro z; cases z)
  rw [seq_nx s15]
  obtain ⟨lm1, lm2, _⟩ := mem_CP.mp (met_CP hp hq)
  obtain ⟨lj1, lj2, _⟩ := mem_CP.mp (join_CP hp hq)
  have e_m := e_couples_met h1 h2 hp hq
  have e_j := e_couples_joined h1 h2 hp hq
  generalize metC n R p q = M at lm1 lm2 e_m ⊢
  generalize joinC n R p q = J at lj1 lj2 e_j ⊢
  have rM : reprD [.list [encC M, encC M]] = .ret (.sh (.str (PyData.shown (.list [encC M, encC M])))) := repr2 (rp_C h2 lm1 lm2) (rp_C h2 lm1 lm2) (by decide) (by decide)
  have rJ : reprD [.list [encC J, encC J]] = .ret (.sh (.str (PyData.shown (.list [encC J, encC J])))) := repr2 (rp_C h2 lj1 lj2) (rp_C h2 lj1 lj2) (by decide) (by decide)
  have z2 : (2 : Nat) ≤ 4000 := by omega
  have zi : ((0 : Int) ≤ 2 ∧ (2 : Int) ≤ 1000) ∧ 1 ≤ 1000 := ⟨⟨by omega, by omega⟩, by omega⟩
  have zM : (List.replicate (Int.toNat 2) [encC M]).flatten = [encC M, encC M] := rfl
  have zJ : (List.replicate (Int.toNat 2) [encC J]).flatten = [encC J, encC J] := rfl
  have ne1 : neA (.int ((1 : Nat) : Int)) (.int 1) = .ret (.sh (.bool false)) := ne_len (a := 1) (b := 1)
  refine (congrArg (fun t => Hold t _) (seq_nx (ρ' := lE n R x4 (.sh (encT l)) (.sh (encT (shr n R l))) (.sh (encC near)) (.sh (encT (stn n R l))) (.sh (encC far)) (.sh (encC p)) (.sh (encC q)) (.own [encC M]) (.own [encC J])) (if_f (f := sRet (kA (.bool false))) (g := sNil) ?_))).mpr ?_
  · simp only [lE, runD, seqD, ifD, setD, asgD, parD, par3D, setV, extD, appD, ownAt, vD, vA, oA, kA, fzA, bin, tB, tNot, tAnd, tOr, nA, andA, orA, ifA, chA, a0, aC, b0, bC, cal, calK, isA, is2A, slA, o0, oI, ixL, itS, itZ, itE, itE2, reprL, mulOwn, gN, g0, lamA, xO, sNil, sRet, sEx, sErr, sBk, sCt, sShare, bind_ret, bind_err, slA0, slAp, slAf, slAs, slD0, slDo, slDs, calling, toB, toD, toS, toI, frz, dataA, allS, mkTup, mkLst, itemsL, itemsT, share, share1, tupG, consG, List.append_nil, List.replicate, List.getElem?_cons_zero, List.getElem?_cons_succ, List.cons_append, List.nil_append, Nat.sub_self, List.length_cons, List.length_nil, List.set_cons_zero, List.set_cons_succ, List.foldl_cons, List.foldl_nil, if_true, if_false, ite_true, ite_false, reduceCtorEq, Nat.reduceAdd, Nat.reduceSub, Nat.reduceLeDiff, Bool.not_true, Bool.not_false, Bool.false_eq_true, pick, List.filterMap_cons, List.filterMap_nil, len_l, ne1, e_m, z2, rM, zi, and_self, zM, ne_S, decide_true]
  refine (congrArg (fun t => Hold t _) (if_f (f := sRet (kA (.bool false))) (g := sNil) ?_)).mpr ?_
  · simp only [lE, runD, seqD, ifD, setD, asgD, parD, par3D, setV, extD, appD, ownAt, vD, vA, oA, kA, fzA, bin, tB, tNot, tAnd, tOr, nA, andA, orA, ifA, chA, a0, aC, b0, bC, cal, calK, isA, is2A, slA, o0, oI, ixL, itS, itZ, itE, itE2, reprL, mulOwn, gN, g0, lamA, xO, sNil, sRet, sEx, sErr, sBk, sCt, sShare, bind_ret, bind_err, slA0, slAp, slAf, slAs, slD0, slDo, slDs, calling, toB, toD, toS, toI, frz, dataA, allS, mkTup, mkLst, itemsL, itemsT, share, share1, tupG, consG, List.append_nil, List.replicate, List.getElem?_cons_zero, List.getElem?_cons_succ, List.cons_append, List.nil_append, Nat.sub_self, List.length_cons, List.length_nil, List.set_cons_zero, List.set_cons_succ, List.foldl_cons, List.foldl_nil, if_true, if_false, ite_true, ite_false, reduceCtorEq, Nat.reduceAdd, Nat.reduceSub, Nat.reduceLeDiff, Bool.not_true, Bool.not_false, Bool.false_eq_true, pick, List.filterMap_cons, List.filterMap_nil, len_l, e_j, z2, rJ, zi, and_self, zJ, ne_S, decide_true]
  exact ⟨_, _, _, _, _, _, _, _, _, rfl⟩
theorem e__law_lots_right (h1 : 1 ≤ n) (h2 : n ≤ 6) : Hold (d__law_lots_right [.pot, .sh (encF n R), .sh (.list ((LL n).map encT)), .sh (.list ((CP n R).map encC))]) fun av => av = .sh (.bool true) := by
  rw [q__law_lots_right]
  refine hrun ?_
  unfold b__law_lots_right
  refine hseq ?_
  unfold forD
  refine Hold.bind' (itR_hold ⟨4, rfl, by omega, ?_⟩)
  refine (forH (g := gN 4) (body := lb__law_lots_right_0) (fun ρ => ∃ x4 x5 x6 x7 x8 x9 x10 x11 x12 x15, ρ = lE n R x4 x5 x6 x7 x8 x9 x10 x11 x12 x15) _ _ ⟨_, _, _, _, _, _, _, _, _, _, rfl⟩ fun ρ ⟨x4, x5, x6, x7, x8, x9, x10, x11, x12, x15, e⟩ d hd => ?_).mono fun o ⟨ρ', e, _⟩ => ⟨ρ', e, ?_⟩
  · subst e
    show Hold (lb__law_lots_right_0 (lE n R (.sh d) x5 x6 x7 x8 x9 x10 x11 x12 x15)) _
    exact (lots_body h1 h2).mono fun o ⟨y5, y6, y7, y8, y9, y10, y11, y12, y15, e⟩ => ⟨_, .inl e, _, _, _, _, _, _, _, _, _, _, rfl⟩
  · exact ⟨_, rfl, rfl⟩
end
end Mf
end
section
set_option Elab.async false
set_option linter.all false
set_option autoImplicit false
set_option maxRecDepth 100000
/-! K6 (k71): full blocks counted, greatest ones, turned. -/
namespace Mf
open PySem Dn Wk
open Classical

/-- the lots with something in them -/
noncomputable def L1 (n : Nat) : List (List Nat) := (LL n).filter fun l => !decide (l = [])
theorem L1_SS (n : Nat) : SS encT (L1 n) := (LL_SS n).filter _
theorem mem_L1 {n : Nat} {l : List Nat} : l ∈ L1 n ↔ Lot n l ∧ l ≠ [] := by
  unfold L1
  rw [List.mem_filter, mem_LL]
  simp
theorem drop_LL (n : Nat) : (LL n).drop 1 = L1 n := by
  unfold L1
  conv => lhs; rw [LL_head n]
  rfl
theorem count_in (s : List Nat) : ∀ n : Nat, ((subs n).filter fun m => m.all fun b => decide (b ∈ s)).length = 2 ^ ((List.range n).filter fun b => decide (b ∈ s)).length
  | 0 => rfl
  | n + 1 => by
    have ih := count_in s n
    rw [subs, List.filter_append, List.length_append, ih, List.filter_map, List.length_map, List.range_succ, List.filter_append, List.length_append]
    have e : ((fun m : List Nat => m.all fun b => decide (b ∈ s)) ∘ fun l => l ++ [n]) = fun l => (l.all fun b => decide (b ∈ s)) && decide (n ∈ s) := by
      funext l
      simp [List.all_append]
    rw [e]
    by_cases h : n ∈ s
    · have e2 : (fun l : List Nat => (l.all fun b => decide (b ∈ s)) && decide (n ∈ s)) = fun l => l.all fun b => decide (b ∈ s) := by
        funext l
        rw [decide_eq_true h, Bool.and_true]
      rw [e2, ih, List.filter_cons_of_pos (by simpa using h), List.filter_nil, List.length_singleton, Nat.pow_succ]
      omega
    · have e2 : (fun l : List Nat => (l.all fun b => decide (b ∈ s)) && decide (n ∈ s)) = fun _ => false := by
        funext l
        rw [decide_eq_false h, Bool.and_false]
      rw [e2, List.filter_cons_of_neg (by simpa using h), List.filter_nil, List.length_nil]
      simp
section
variable {n : Nat} {R : Nat → Nat → Bool} {l m : List Nat} {p q : List Nat × List Nat}
theorem FB_iff (h : Lot n p.1) (h' : Lot n p.2) : FB R p = true ↔ (p.1 ≠ [] ∧ p.2 ≠ []) ∧ ∀ b ∈ p.2, b ∈ shr n R p.1 := by
  unfold FB
  simp only [Bool.and_eq_true, Bool.not_eq_true', decide_eq_false_iff_not, List.all_eq_true]
  constructor
  · rintro ⟨h1, h2⟩
    exact ⟨h1, fun b hb => mem_shr.mpr ⟨h'.2 b hb, fun a ha => h2 a ha b hb⟩⟩
  · rintro ⟨h1, h2⟩
    exact ⟨h1, fun a ha b hb => (mem_shr.mp (h2 b hb)).2 a ha⟩
theorem FB_iff2 (h : Lot n p.1) (h' : Lot n p.2) : FB R p = true ↔ (p.1 ≠ [] ∧ p.2 ≠ []) ∧ ∀ a ∈ p.1, a ∈ stn n R p.2 := by
  unfold FB
  simp only [Bool.and_eq_true, Bool.not_eq_true', decide_eq_false_iff_not, List.all_eq_true]
  constructor
  · rintro ⟨h1, h2⟩
    exact ⟨h1, fun a ha => mem_stn.mpr ⟨h.2 a ha, fun b hb => h2 a ha b hb⟩⟩
  · rintro ⟨h1, h2⟩
    exact ⟨h1, fun a ha b hb => (mem_stn.mp (h2 a ha)).2 b hb⟩
/-- how many lots make a full block behind a lot -/
theorem row_count (hl : l ∈ L1 n) : ((L1 n).filter fun m => FB R (l, m)).length = wgt n R l := by
  obtain ⟨h1, h2⟩ := mem_L1.mp hl
  have hs := lot_shr n R l
  have c := count_in (shr n R l) n
  rw [← lot_eq_filter hs] at c
  have p1 : ((subs n).filter fun m => m.all fun b => decide (b ∈ shr n R l)).Perm ((LL n).filter fun m => m.all fun b => decide (b ∈ shr n R l)) := (inOrder_perm (subs n)).symm.filter _
  rw [p1.length_eq, LL_head n, List.filter_cons_of_pos (by simp), List.length_cons] at c
  have e : ((L1 n).filter fun m => FB R (l, m)) = (L1 n).filter fun m => m.all fun b => decide (b ∈ shr n R l) := by
    refine List.filter_congr fun m hm => ?_
    obtain ⟨g1, g2⟩ := mem_L1.mp hm
    rw [Bool.eq_iff_iff, FB_iff (p := (l, m)) h1 g1, List.all_eq_true]
    constructor
    · rintro ⟨_, z⟩ b hb
      exact decide_eq_true (z b hb)
    · exact fun z => ⟨⟨h2, g2⟩, fun b hb => of_decide_eq_true (z b hb)⟩
  rw [e]
  unfold wgt
  have e3 : ((LL n).filter fun l => !decide (l = [])) = L1 n := rfl
  rw [e3] at c
  omega
/-- all full blocks, in order -/
noncomputable def BLo (n : Nat) (R : Nat → Nat → Bool) (L : List (List Nat)) : List (List Nat × List Nat) := L.flatMap fun l => ((L1 n).filter fun m => FB R (l, m)).map fun m => (l, m)
noncomputable def BL (n : Nat) (R : Nat → Nat → Bool) : List (List Nat × List Nat) := BLo n R (L1 n)
theorem mem_BL : p ∈ BL n R ↔ Lot n p.1 ∧ Lot n p.2 ∧ FB R p = true := by
  unfold BL BLo
  rw [List.mem_flatMap]
  constructor
  · rintro ⟨l, hl, h⟩
    obtain ⟨m, hm, rfl⟩ := List.mem_map.mp h
    rw [List.mem_filter] at hm
    exact ⟨(mem_L1.mp hl).1, (mem_L1.mp hm.1).1, hm.2⟩
  · rintro ⟨h1, h2, h3⟩
    obtain ⟨⟨n1, n2⟩, _⟩ := (FB_iff (R := R) h1 h2).mp h3
    exact ⟨p.1, mem_L1.mpr ⟨h1, n1⟩, List.mem_map.mpr ⟨p.2, List.mem_filter.mpr ⟨mem_L1.mpr ⟨h2, n2⟩, h3⟩, rfl⟩⟩
theorem BLo_SS : ∀ (L : List (List Nat)), SS encT L → SS encC (BLo n R L)
  | [], _ => List.Pairwise.nil
  | l :: L, h => by
    obtain ⟨h1, h2⟩ := List.pairwise_cons.mp h
    unfold BLo
    rw [List.flatMap_cons]
    refine List.pairwise_append.mpr ⟨?_, BLo_SS L h2, fun a ha b hb => ?_⟩
    · exact SS.map (enc2 := encT) ((L1_SS n).filter _) fun a b _ _ hab => dlt_C2 hab
    · obtain ⟨m, _, rfl⟩ := List.mem_map.mp ha
      obtain ⟨l2, hl2, hb⟩ := List.mem_flatMap.mp hb
      obtain ⟨m2, _, rfl⟩ := List.mem_map.mp hb
      exact dlt_C1 (h1 l2 hl2)
theorem BL_SS (n : Nat) (R : Nat → Nat → Bool) : SS encC (BL n R) := BLo_SS _ (L1_SS n)
theorem sum_map_congr {α : Type} {f g : α → Nat} : ∀ {l : List α}, (∀ a ∈ l, f a = g a) → (l.map f).sum = (l.map g).sum
  | [], _ => rfl
  | a :: l, h => by rw [List.map_cons, List.map_cons, List.sum_cons, List.sum_cons, h a List.mem_cons_self, sum_map_congr fun b hb => h b (List.mem_cons_of_mem _ hb)]
theorem BLo_len (L : List (List Nat)) (h : ∀ l ∈ L, l ∈ L1 n) : (BLo n R L).length = (L.map (wgt n R)).sum := by
  induction L with
  | nil => rfl
  | cons l L ih =>
    have ih := ih fun m hm => h m (List.mem_cons_of_mem _ hm)
    unfold BLo at ih ⊢
    rw [List.flatMap_cons, List.length_append, List.length_map, row_count (h l List.mem_cons_self), ih, List.map_cons, List.sum_cons]
theorem BL_len : (BL n R).length = MB n R := BLo_len _ fun l h => h
/-! ### greatest ones -/
def supB (p q : List Nat × List Nat) : Bool := (p.1.all fun x => decide (x ∈ q.1)) && p.2.all fun x => decide (x ∈ q.2)
theorem supB_iff : supB p q = true ↔ (∀ x ∈ p.1, x ∈ q.1) ∧ ∀ x ∈ p.2, x ∈ q.2 := by
  unfold supB
  simp only [Bool.and_eq_true, List.all_eq_true, decide_eq_true_iff]
theorem shr_anti (h : ∀ x ∈ l, x ∈ m) : ∀ b ∈ shr n R m, b ∈ shr n R l := fun b hb => mem_shr.mpr ⟨(mem_shr.mp hb).1, fun a ha => (mem_shr.mp hb).2 a (h a ha)⟩
theorem stn_anti (h : ∀ x ∈ l, x ∈ m) : ∀ b ∈ stn n R m, b ∈ stn n R l := fun b hb => mem_stn.mpr ⟨(mem_stn.mp hb).1, fun a ha => (mem_stn.mp hb).2 a (h a ha)⟩
theorem GB_BL (h : p ∈ GB n R) : p ∈ BL n R := by
  obtain ⟨h1, h2, h3⟩ := mem_GB.mp h
  obtain ⟨a1, a2, a3, a4⟩ := mem_CP.mp h1
  exact mem_BL.mpr ⟨a1, a2, (FB_iff a1 a2).mpr ⟨⟨h2, h3⟩, fun b hb => by rw [a4]; exact hb⟩⟩
/-- the greatest block around one -/
theorem around (h : p ∈ BL n R) : (stn n R (shr n R p.1), shr n R p.1) ∈ GB n R ∧ supB p (stn n R (shr n R p.1), shr n R p.1) = true := by
  obtain ⟨h1, h2, h3⟩ := mem_BL.mp h
  obtain ⟨⟨n1, n2⟩, h4⟩ := (FB_iff h1 h2).mp h3
  have s : supB p (stn n R (shr n R p.1), shr n R p.1) = true := supB_iff.mpr ⟨in_stn h1, h4⟩
  refine ⟨mem_GB.mpr ⟨mem_CP.mpr ⟨lot_stn _ _ _, lot_shr _ _ _, rfl, shr3 h1⟩, ?_, ?_⟩, s⟩
  · intro e
    obtain ⟨a, ha⟩ := List.exists_mem_of_ne_nil _ n1
    have := (supB_iff.mp s).1 a ha
    rw [e] at this
    cases this
  · intro e
    obtain ⟨a, ha⟩ := List.exists_mem_of_ne_nil _ n2
    have := (supB_iff.mp s).2 a ha
    rw [e] at this
    cases this
theorem most_iff (hp : p ∈ BL n R) : ((BL n R).filter (supB p)).length = 1 ↔ p ∈ GB n R := by
  constructor
  · intro h1
    obtain ⟨g, s⟩ := around hp
    obtain ⟨x, hx⟩ := List.length_eq_one_iff.mp h1
    have m1 : p ∈ (BL n R).filter (supB p) := List.mem_filter.mpr ⟨hp, supB_iff.mpr ⟨fun _ h => h, fun _ h => h⟩⟩
    have m2 : (stn n R (shr n R p.1), shr n R p.1) ∈ (BL n R).filter (supB p) := List.mem_filter.mpr ⟨GB_BL g, s⟩
    rw [hx, List.mem_singleton] at m1 m2
    have e := m2.trans m1.symm
    rw [e] at g
    exact g
  · intro hg
    obtain ⟨h1, h2, h3⟩ := mem_GB.mp hg
    obtain ⟨a1, a2, a3, a4⟩ := mem_CP.mp h1
    have e : (BL n R).filter (supB p) = [p] := by
      refine SS.uniq (enc := encC) ((BL_SS n R).filter _) (List.pairwise_singleton _ _) fun q => ?_
      rw [List.mem_filter, List.mem_singleton]
      constructor
      · rintro ⟨hq, hs⟩
        obtain ⟨b1, b2, b3⟩ := mem_BL.mp hq
        obtain ⟨s1, s2⟩ := supB_iff.mp hs
        obtain ⟨_, f1⟩ := (FB_iff (R := R) b1 b2).mp b3
        obtain ⟨_, f2⟩ := (FB_iff2 (R := R) b1 b2).mp b3
        have c1 : q.1 = p.1 := b1.uniq a1 fun x => ⟨fun hx => by rw [← a3]; exact stn_anti s2 x (f2 x hx), s1 x⟩
        have c2 : q.2 = p.2 := b2.uniq a2 fun x => ⟨fun hx => by rw [← a4]; exact shr_anti s1 x (f1 x hx), s2 x⟩
        exact Prod.ext c1 c2
      · rintro rfl
        exact ⟨hp, supB_iff.mpr ⟨fun _ h => h, fun _ h => h⟩⟩
    rw [e]
    rfl
theorem GB_SS (n : Nat) (R : Nat → Nat → Bool) : SS encC (GB n R) := (CP_SS n R).filter _
theorem most_eq : (BL n R).filter (fun p => decide (((BL n R).filter (supB p)).length = 1)) = GB n R := SS.uniq (enc := encC) ((BL_SS n R).filter _) (GB_SS n R) fun p => by
  rw [List.mem_filter, decide_eq_true_iff]
  constructor
  · rintro ⟨h1, h2⟩
    exact (most_iff h1).mp h2
  · exact fun h => ⟨GB_BL h, (most_iff (GB_BL h)).mpr h⟩
theorem great_eq : (BL n R).filter (fun p => FB R p && decide (p ∈ CP n R)) = GB n R := SS.uniq (enc := encC) ((BL_SS n R).filter _) (GB_SS n R) fun p => by
  rw [List.mem_filter, Bool.and_eq_true, decide_eq_true_iff]
  constructor
  · rintro ⟨h1, h2, h3⟩
    obtain ⟨a1, a2, a3⟩ := mem_BL.mp h1
    obtain ⟨⟨n1, n2⟩, _⟩ := (FB_iff (R := R) a1 a2).mp a3
    exact mem_GB.mpr ⟨h3, n1, n2⟩
  · intro h
    have hb := GB_BL h
    exact ⟨hb, (mem_BL.mp hb).2.2, (mem_GB.mp h).1⟩
/-- each pair stands in a greatest block -/
theorem pair_in {i j : Nat} (hi : i < n) (hj : j < n) (h : R i j = true) : ∃ p ∈ GB n R, i ∈ p.1 ∧ j ∈ p.2 := by
  have h1 : Lot n [i] := ⟨List.pairwise_singleton _ _, fun a ha => by rw [List.mem_singleton.mp ha]; exact hi⟩
  have h2 : Lot n [j] := ⟨List.pairwise_singleton _ _, fun a ha => by rw [List.mem_singleton.mp ha]; exact hj⟩
  have hb : ([i], [j]) ∈ BL n R := mem_BL.mpr ⟨h1, h2, (FB_iff (R := R) (p := ([i], [j])) h1 h2).mpr ⟨⟨by simp, by simp⟩, fun b hb => by
    rw [List.mem_singleton.mp hb]
    exact mem_shr.mpr ⟨hj, fun a ha => by rw [List.mem_singleton.mp ha]; exact h⟩⟩⟩
  obtain ⟨g, s⟩ := around hb
  obtain ⟨s1, s2⟩ := supB_iff.mp s
  exact ⟨_, g, s1 i (by simp), s2 j (by simp)⟩
/-! ### turned -/
theorem tr_stn : stn n (tr R) l = shr n R l := rfl
theorem tr_shr : shr n (tr R) l = stn n R l := rfl
theorem CP_tr : p ∈ CP n (tr R) ↔ (p.2, p.1) ∈ CP n R := by
  rw [mem_CP, mem_CP, tr_stn, tr_shr]
  exact ⟨fun ⟨a, b, c, d⟩ => ⟨b, a, d, c⟩, fun ⟨a, b, c, d⟩ => ⟨b, a, d, c⟩⟩
theorem swap_perm : ((CP n (tr R)).map fun p => (p.2, p.1)).Perm (CP n R) := by
  refine (List.perm_ext_iff_of_nodup (nodup_map_inj (fun a b e => ?_) (CP_SS n (tr R)).nodup) (CP_SS n R).nodup).mpr fun p => ?_
  · have e1 := congrArg Prod.fst e
    have e2 := congrArg Prod.snd e
    exact Prod.ext e2 e1
  · rw [List.mem_map]
    constructor
    · rintro ⟨q, hq, rfl⟩
      exact CP_tr.mp hq
    · exact fun h => ⟨(p.2, p.1), CP_tr.mpr h, rfl⟩
theorem FB_tr : FB (tr R) (m, l) = FB R (l, m) := by
  unfold FB tr
  rw [Bool.eq_iff_iff]
  simp only [Bool.and_eq_true, List.all_eq_true]
  exact ⟨fun ⟨⟨a, b⟩, c⟩ => ⟨⟨b, a⟩, fun x hx y hy => c y hy x hx⟩, fun ⟨⟨a, b⟩, c⟩ => ⟨⟨b, a⟩, fun x hx y hy => c y hy x hx⟩⟩
theorem sum_swap {α β : Type} (f : α → β → Nat) : ∀ (l : List α) (m : List β), (l.map fun a => (m.map fun b => f a b).sum).sum = (m.map fun b => (l.map fun a => f a b).sum).sum
  | [], m => by
    induction m with
    | nil => rfl
    | cons b m ih => rw [List.map_cons, List.sum_cons, ← ih]; rfl
  | a :: l, m => by
    rw [List.map_cons, List.sum_cons, sum_swap f l m]
    clear sum_swap
    induction m with
    | nil => rfl
    | cons b m ih =>
      rw [List.map_cons, List.sum_cons, List.map_cons, List.sum_cons, List.map_cons, List.sum_cons, ← ih, List.map_cons, List.sum_cons]
      omega
theorem len_filter_sum {α : Type} (f : α → Bool) : ∀ l : List α, (l.filter f).length = (l.map fun a => if f a = true then 1 else 0).sum
  | [] => rfl
  | a :: l => by
    rw [List.map_cons, List.sum_cons, ← len_filter_sum f l]
    cases h : f a with
    | true => rw [List.filter_cons_of_pos h, List.length_cons, if_pos rfl]; omega
    | false => rw [List.filter_cons_of_neg (by simp [h]), if_neg Bool.false_ne_true]; omega
theorem MB_sum : MB n R = ((L1 n).map fun l => ((L1 n).map fun m => if FB R (l, m) = true then 1 else 0).sum).sum := by
  unfold MB
  exact sum_map_congr fun l hl => by rw [← row_count hl, len_filter_sum]
theorem MB_tr : MB n (tr R) = MB n R := by
  rw [MB_sum, MB_sum, sum_swap]
  refine sum_map_congr fun l _ => sum_map_congr fun m _ => ?_
  rw [FB_tr]
end
end Mf
end
section
set_option Elab.async false
set_option linter.all false
set_option autoImplicit false
set_option maxRecDepth 100000
/-! E5: more of repr; steps of a walk. Of no one law. -/
namespace Mf
open PySem Dn
open Classical

theorem Rp.nat {a : Nat} (h : a < 1000000000) : Rp 9 0 (iD a) := by
  refine ⟨?_, by rw [PyData.hasDict], by rw [PyData.depth]; exact Nat.le_refl 0, ?_⟩
  · rw [PyData.showable]
    have h2 : ((a : Int)).natAbs.log2 < 30 := by
      rw [Int.natAbs_natCast]
      by_cases h0 : a = 0
      · rw [h0]; decide
      · exact (Nat.log2_lt h0).mpr (by omega)
    exact decide_eq_true (by omega)
  · rw [wt]
    show (PyData.shown (.int (a : Int))).length ≤ 9
    rw [PyData.shown]
    exact PyProof.Rows.toString_length_le (by omega) (by decide) (by omega)
theorem Rp.non : Rp 4 0 .none := ⟨by rw [PyData.showable], by rw [PyData.hasDict], by rw [PyData.depth]; exact Nat.le_refl 0, by rw [wt]; decide +kernel⟩
theorem repr_tup {k m : Nat} {xs : List PyData} (h : Rp k m (.tuple xs)) (hk : k ≤ 16000000) (hm : m ≤ 64) : reprD [.tuple xs] = .ret (.sh (.str (PyData.shown (.tuple xs)))) := by
  obtain ⟨h1, h2, h3, h4⟩ := h
  have h5 := shown_le _ h2
  have hs : (16000000 : Nat) ≤ sizeLine := by decide
  show (if ((isRef (.tuple xs) && PyData.showable (.tuple xs)) && ((!PyData.hasDict (.tuple xs) && decide (PyData.depth (.tuple xs) ≤ 64)) && decide ((PyData.shown (.tuple xs)).length ≤ sizeLine))) = true then _ else _) = _
  rw [h1, h2, decide_eq_true (Nat.le_trans h3 hm), decide_eq_true (show (PyData.shown (.tuple xs)).length ≤ sizeLine by omega)]
  rfl
theorem repr_F {n : Nat} (R : Nat → Nat → Bool) (hn : n ≤ 6) : reprD [encF n R] = .ret (.sh (.str (PyData.shown (encF n R)))) := repr_tup (rp_F R hn) (by decide) (by decide)
/-- a repr of a list of things with short texts -/
theorem repr_ls {k m : Nat} {xs : List PyData} (h : ∀ x ∈ xs, Rp k m x) (hk : k ≤ 20000) (hm : m ≤ 60) (hl : xs.length ≤ 500) : reprD [.list xs] = .ret (.sh (.str (PyData.shown (.list xs)))) :=
  repr_list (Rp.list (n := 500) h hl) (by omega) (by omega)
section
variable {f g : Dn.Env → T Out} {ρ ρ' : Dn.Env} {p : Out → Prop}
theorem hs (h : f ρ = .ret (.nx ρ')) (k : Hold (g ρ') p) : Hold (seqD f g ρ) p := by rw [seq_nx h]; exact k
theorem hand {e e2 : Dn.Env → T AV} {q : AV → Prop} (h : Hold (e ρ) fun av => av = .sh (.bool true)) (k : Hold (e2 ρ) q) : Hold (andA e e2 ρ) q := by
  unfold andA
  refine Hold.bind' (Hold.bind' (h.mono fun av e => ?_))
  subst e
  exact k
end
end Mf
end
section
set_option Elab.async false
set_option linter.all false
set_option autoImplicit false
set_option maxRecDepth 100000
set_option maxHeartbeats 1600000
/-! K7 (k71): all that is asked of one relation. -/
namespace Mf
open PySem Dn Wk
open Classical

section
variable {n : Nat} {R : Nat → Nat → Bool} {l m : List Nat} {p q : List Nat × List Nat}
theorem ne_LL {L : List (List Nat × List Nat)} : neA (.list (L.map encC)) (.list (L.map encC)) = .ret (.sh (.bool false)) := by
  have h : Ok 3 (.list (L.map encC)) := Ok.list fun x hx => by
    obtain ⟨p, _, rfl⟩ := List.mem_map.mp hx
    exact ok_encC p
  rw [neA_d h h, decide_eq_true rfl]
  rfl
theorem GB_64 (hn : n ≤ 6) : (GB n R).length ≤ 64 := Nat.le_trans (List.length_filter_le _ _) (CP_64 hn)
theorem r0 (h1 : 1 ≤ n) (h2 : n ≤ 6) : c__law_relation_right_0 [.pot, .sh (encF n R), .sh (iD n), .sh (.str (PyData.shown (encF n R))), .sh (.list ((LL n).map encT)), .no, .no, .no, .no, .no, .no, .no, .no, .no, .no, .no, .no, .no, .no, .no, .no, .no] = .ret (.own ((LL n).map fun l => encT (shr n R l))) := by
  have n1 : n ≤ 1000 := by omega
  refine lcD_eq (ds := (LL n).map encT) rfl rfl (lcN1 (e := encT) _ _ fun l hl => ?_)
  simp only [runD, seqD, ifD, setD, asgD, parD, par3D, setV, extD, appD, ownAt, vD, vA, oA, kA, fzA, bin, tB, tNot, tAnd, tOr, nA, andA, orA, ifA, chA, a0, aC, b0, bC, cal, calK, isA, is2A, slA, o0, oI, ixL, itS, itZ, itE, itE2, reprL, mulOwn, gN, g0, lamA, xO, sNil, sRet, sEx, sErr, sBk, sCt, sShare, bind_ret, bind_err, slA0, slAp, slAf, slAs, slD0, slDo, slDs, calling, toB, toD, toS, toI, frz, dataA, allS, mkTup, mkLst, itemsL, itemsT, share, share1, tupG, consG, List.append_nil, List.replicate, List.getElem?_cons_zero, List.getElem?_cons_succ, List.cons_append, List.nil_append, Nat.sub_self, List.length_cons, List.length_nil, List.set_cons_zero, List.set_cons_succ, List.foldl_cons, List.foldl_nil, if_true, if_false, ite_true, ite_false, reduceCtorEq, Nat.reduceAdd, Nat.reduceSub, Nat.reduceLeDiff, Bool.not_true, Bool.not_false, Bool.false_eq_true, pick, List.filterMap_cons, List.filterMap_nil, e__law_common n1 (mem_LL.mp hl)]
theorem zipIt {a b : Dn.Env → T AV} {ρ : Dn.Env} {α : Type} {f g : α → PyData} {l : List α} (ha : a ρ = .ret (.sh (.list (l.map f)))) (hb : b ρ = .ret (.sh (.list (l.map g)))) : itZ (aC a (aC b a0)) ρ = .ret (l.map fun x => PyData.tuple [f x, g x]) := by
  simp only [runD, seqD, ifD, setD, asgD, parD, par3D, setV, extD, appD, ownAt, vD, vA, oA, kA, fzA, bin, tB, tNot, tAnd, tOr, nA, andA, orA, ifA, chA, a0, aC, b0, bC, cal, calK, isA, is2A, slA, o0, oI, ixL, itS, itZ, itE, itE2, reprL, mulOwn, gN, g0, lamA, xO, sNil, sRet, sEx, sErr, sBk, sCt, sShare, bind_ret, bind_err, slA0, slAp, slAf, slAs, slD0, slDo, slDs, calling, toB, toD, toS, toI, frz, dataA, allS, mkTup, mkLst, itemsL, itemsT, share, share1, tupG, consG, List.append_nil, List.replicate, List.getElem?_cons_zero, List.getElem?_cons_succ, List.cons_append, List.nil_append, Nat.sub_self, List.length_cons, List.length_nil, List.set_cons_zero, List.set_cons_succ, List.foldl_cons, List.foldl_nil, if_true, if_false, ite_true, ite_false, reduceCtorEq, Nat.reduceAdd, Nat.reduceSub, Nat.reduceLeDiff, Bool.not_true, Bool.not_false, Bool.false_eq_true, pick, List.filterMap_cons, List.filterMap_nil, ha, hb, zip_ll, zip_maps]
theorem r1 (h2 : n ≤ 6) : c__law_relation_right_1 [.pot, .sh (encF n R), .sh (iD n), .sh (.str (PyData.shown (encF n R))), .sh (.list ((LL n).map encT)), .sh (.list ((LL n).map fun l => encT (shr n R l))), .no, .no, .no, .no, .no, .no, .no, .no, .no, .no, .no, .no, .no, .no, .no, .no] = .ret (.own (((L1 n).map (wgt n R)).map iD)) := by
  rw [List.map_map]
  refine lcD_eq (ds := (LL n).map fun l => PyData.tuple [encT l, encT (shr n R l)]) (zipIt rfl rfl) rfl (lcG (b := fun l => !decide (l = [])) (fun l => [.pot, .sh (encF n R), .sh (iD n), .sh (.str (PyData.shown (encF n R))), .sh (.list ((LL n).map encT)), .sh (.list ((LL n).map fun l => encT (shr n R l))), .sh (encT l), .no, .sh (encT (shr n R l)), .no, .no, .no, .no, .no, .no, .no, .no, .no, .no, .no, .no, .no]) _ _ (fun l _ => rfl) (fun l hl => ?_) fun l hl _ => ?_)
  · have z0 : (0 : Nat) ≤ 4000 := by omega
    simp only [runD, seqD, ifD, setD, asgD, parD, par3D, setV, extD, appD, ownAt, vD, vA, oA, kA, fzA, bin, tB, tNot, tAnd, tOr, nA, andA, orA, ifA, chA, a0, aC, b0, bC, cal, calK, isA, is2A, slA, o0, oI, ixL, itS, itZ, itE, itE2, reprL, mulOwn, gN, g0, lamA, xO, sNil, sRet, sEx, sErr, sBk, sCt, sShare, bind_ret, bind_err, slA0, slAp, slAf, slAs, slD0, slDo, slDs, calling, toB, toD, toS, toI, frz, dataA, allS, mkTup, mkLst, itemsL, itemsT, share, share1, tupG, consG, List.append_nil, List.replicate, List.getElem?_cons_zero, List.getElem?_cons_succ, List.cons_append, List.nil_append, Nat.sub_self, List.length_cons, List.length_nil, List.set_cons_zero, List.set_cons_succ, List.foldl_cons, List.foldl_nil, if_true, if_false, ite_true, ite_false, reduceCtorEq, Nat.reduceAdd, Nat.reduceSub, Nat.reduceLeDiff, Bool.not_true, Bool.not_false, Bool.false_eq_true, pick, List.filterMap_cons, List.filterMap_nil, z0, encT_nil, ne_TT]
  · have hk := (lot_shr n R l).len
    have e2 : subD (iD (2 ^ (shr n R l).length)) (.int 1) = .ret (.sh (iD (wgt n R l))) := by
      rw [sub1]
      unfold wgt
      have h3 : 0 < 2 ^ (shr n R l).length := Nat.pow_pos (by decide)
      congr 3
      omega
    simp only [runD, seqD, ifD, setD, asgD, parD, par3D, setV, extD, appD, ownAt, vD, vA, oA, kA, fzA, bin, tB, tNot, tAnd, tOr, nA, andA, orA, ifA, chA, a0, aC, b0, bC, cal, calK, isA, is2A, slA, o0, oI, ixL, itS, itZ, itE, itE2, reprL, mulOwn, gN, g0, lamA, xO, sNil, sRet, sEx, sErr, sBk, sCt, sShare, bind_ret, bind_err, slA0, slAp, slAf, slAs, slD0, slDo, slDs, calling, toB, toD, toS, toI, frz, dataA, allS, mkTup, mkLst, itemsL, itemsT, share, share1, tupG, consG, List.append_nil, List.replicate, List.getElem?_cons_zero, List.getElem?_cons_succ, List.cons_append, List.nil_append, Nat.sub_self, List.length_cons, List.length_nil, List.set_cons_zero, List.set_cons_succ, List.foldl_cons, List.foldl_nil, if_true, if_false, ite_true, ite_false, reduceCtorEq, Nat.reduceAdd, Nat.reduceSub, Nat.reduceLeDiff, Bool.not_true, Bool.not_false, Bool.false_eq_true, pick, List.filterMap_cons, List.filterMap_nil, len_T, e__law_lots (show (shr n R l).length ≤ 6 by omega), len_l, List.length_map, LL_len, e2]
    rfl
theorem r2 : c__law_relation_right_2 [.pot, .sh (encF n R), .sh (iD n), .sh (.str (PyData.shown (encF n R))), .sh (.list ((LL n).map encT)), .sh (.list ((LL n).map fun l => encT (shr n R l))), .no, .sh (iD (MB n R)), .no, .no, .no, .no, .no, .no, .no, .no, .no, .no, .no, .no, .no, .no] = .ret (.own ((CP n R).map encC)) := by
  unfold CP
  rw [List.map_map]
  refine lcD_eq (ds := (LL n).map fun l => PyData.tuple [encT l, encT (shr n R l)]) (zipIt rfl rfl) rfl (lcG (b := fun l => decide (stn n R (shr n R l) = l)) (fun l => [.pot, .sh (encF n R), .sh (iD n), .sh (.str (PyData.shown (encF n R))), .sh (.list ((LL n).map encT)), .sh (.list ((LL n).map fun l => encT (shr n R l))), .sh (encT l), .sh (iD (MB n R)), .sh (encT (shr n R l)), .no, .no, .no, .no, .no, .no, .no, .no, .no, .no, .no, .no, .no]) _ _ (fun l _ => rfl) (fun l hl => ?_) fun l hl _ => rfl)
  simp only [runD, seqD, ifD, setD, asgD, parD, par3D, setV, extD, appD, ownAt, vD, vA, oA, kA, fzA, bin, tB, tNot, tAnd, tOr, nA, andA, orA, ifA, chA, a0, aC, b0, bC, cal, calK, isA, is2A, slA, o0, oI, ixL, itS, itZ, itE, itE2, reprL, mulOwn, gN, g0, lamA, xO, sNil, sRet, sEx, sErr, sBk, sCt, sShare, bind_ret, bind_err, slA0, slAp, slAf, slAs, slD0, slDo, slDs, calling, toB, toD, toS, toI, frz, dataA, allS, mkTup, mkLst, itemsL, itemsT, share, share1, tupG, consG, List.append_nil, List.replicate, List.getElem?_cons_zero, List.getElem?_cons_succ, List.cons_append, List.nil_append, Nat.sub_self, List.length_cons, List.length_nil, List.set_cons_zero, List.set_cons_succ, List.foldl_cons, List.foldl_nil, if_true, if_false, ite_true, ite_false, reduceCtorEq, Nat.reduceAdd, Nat.reduceSub, Nat.reduceLeDiff, Bool.not_true, Bool.not_false, Bool.false_eq_true, pick, List.filterMap_cons, List.filterMap_nil, e__law_standing (lot_shr n R l), eq_TT]
theorem r3 : c__law_relation_right_3 [.pot, .sh (encF n R), .sh (iD n), .sh (.str (PyData.shown (encF n R))), .sh (.list ((LL n).map encT)), .sh (.list ((LL n).map fun l => encT (shr n R l))), .no, .sh (iD (MB n R)), .no, .sh (.list ((CP n R).map encC)), .no, .no, .no, .no, .no, .no, .no, .no, .no, .no, .no, .no] = .ret (.own ((GB n R).map encC)) := by
  refine lcD_eq (ds := (CP n R).map encC) rfl rfl (lcG (b := fun p : List Nat × List Nat => !decide (p.1 = []) && !decide (p.2 = [])) (fun p : List Nat × List Nat => [.pot, .sh (encF n R), .sh (iD n), .sh (.str (PyData.shown (encF n R))), .sh (.list ((LL n).map encT)), .sh (.list ((LL n).map fun l => encT (shr n R l))), .sh (encT p.1), .sh (iD (MB n R)), .no, .sh (.list ((CP n R).map encC)), .no, .sh (encT p.2), .no, .no, .no, .no, .no, .no, .no, .no, .no, .no]) _ _ (fun l _ => rfl) (fun p hp => ?_) fun p hp _ => rfl)
  have z0 : (0 : Nat) ≤ 4000 := by omega
  cases e1 : decide (p.1 = []) <;> simp only [runD, seqD, ifD, setD, asgD, parD, par3D, setV, extD, appD, ownAt, vD, vA, oA, kA, fzA, bin, tB, tNot, tAnd, tOr, nA, andA, orA, ifA, chA, a0, aC, b0, bC, cal, calK, isA, is2A, slA, o0, oI, ixL, itS, itZ, itE, itE2, reprL, mulOwn, gN, g0, lamA, xO, sNil, sRet, sEx, sErr, sBk, sCt, sShare, bind_ret, bind_err, slA0, slAp, slAf, slAs, slD0, slDo, slDs, calling, toB, toD, toS, toI, frz, dataA, allS, mkTup, mkLst, itemsL, itemsT, share, share1, tupG, consG, List.append_nil, List.replicate, List.getElem?_cons_zero, List.getElem?_cons_succ, List.cons_append, List.nil_append, Nat.sub_self, List.length_cons, List.length_nil, List.set_cons_zero, List.set_cons_succ, List.foldl_cons, List.foldl_nil, if_true, if_false, ite_true, ite_false, reduceCtorEq, Nat.reduceAdd, Nat.reduceSub, Nat.reduceLeDiff, Bool.not_true, Bool.not_false, Bool.false_eq_true, pick, List.filterMap_cons, List.filterMap_nil, z0, encT_nil, ne_TT, e1, Bool.true_and, Bool.false_and]
variable {x6 x11 x12 x13 x14 x15 : AV}
theorem r4 {B : AV} (h2 : n ≤ 6) (hl : Lot n l) : c__law_relation_right_4 [.pot, .sh (encF n R), .sh (iD n), .sh (.str (PyData.shown (encF n R))), .sh (.list ((LL n).map encT)), .sh (.list ((LL n).map fun l => encT (shr n R l))), .sh (encT l), .sh (iD (MB n R)), .no, .sh (.list ((CP n R).map encC)), .sh (.list ((GB n R).map encC)), x11, x12, B, .no, .no, .no, .no, .no, .no, .no, .no] = .ret (.own (((L1 n).filter fun m => FB R (l, m)).map fun m => encC (l, m))) := by
  have n1 : n ≤ 1000 := by omega
  refine lcD_eq (ds := (L1 n).map encT) (by simp only [runD, seqD, ifD, setD, asgD, parD, par3D, setV, extD, appD, ownAt, vD, vA, oA, kA, fzA, bin, tB, tNot, tAnd, tOr, nA, andA, orA, ifA, chA, a0, aC, b0, bC, cal, calK, isA, is2A, slA, o0, oI, ixL, itS, itZ, itE, itE2, reprL, mulOwn, gN, g0, lamA, xO, sNil, sRet, sEx, sErr, sBk, sCt, sShare, bind_ret, bind_err, slA0, slAp, slAf, slAs, slD0, slDo, slDs, calling, toB, toD, toS, toI, frz, dataA, allS, mkTup, mkLst, itemsL, itemsT, share, share1, tupG, consG, List.append_nil, List.replicate, List.getElem?_cons_zero, List.getElem?_cons_succ, List.cons_append, List.nil_append, Nat.sub_self, List.length_cons, List.length_nil, List.set_cons_zero, List.set_cons_succ, List.foldl_cons, List.foldl_nil, if_true, if_false, ite_true, ite_false, reduceCtorEq, Nat.reduceAdd, Nat.reduceSub, Nat.reduceLeDiff, Bool.not_true, Bool.not_false, Bool.false_eq_true, pick, List.filterMap_cons, List.filterMap_nil, slice1, ← List.map_drop, drop_LL]) rfl (lcN (e := encT) _ (fun m => encC (l, m)) (L1 n) (fun m hm => ?_) fun m _ _ => rfl)
  have z2 : (2 : Nat) ≤ 4000 := by omega
  have e := e__law_is_block (R := R) (p := (l, m)) n1 hl (mem_L1.mp hm).1
  simp only [runD, seqD, ifD, setD, asgD, parD, par3D, setV, extD, appD, ownAt, vD, vA, oA, kA, fzA, bin, tB, tNot, tAnd, tOr, nA, andA, orA, ifA, chA, a0, aC, b0, bC, cal, calK, isA, is2A, slA, o0, oI, ixL, itS, itZ, itE, itE2, reprL, mulOwn, gN, g0, lamA, xO, sNil, sRet, sEx, sErr, sBk, sCt, sShare, bind_ret, bind_err, slA0, slAp, slAf, slAs, slD0, slDo, slDs, calling, toB, toD, toS, toI, frz, dataA, allS, mkTup, mkLst, itemsL, itemsT, share, share1, tupG, consG, List.append_nil, List.replicate, List.getElem?_cons_zero, List.getElem?_cons_succ, List.cons_append, List.nil_append, Nat.sub_self, List.length_cons, List.length_nil, List.set_cons_zero, List.set_cons_succ, List.foldl_cons, List.foldl_nil, if_true, if_false, ite_true, ite_false, reduceCtorEq, Nat.reduceAdd, Nat.reduceSub, Nat.reduceLeDiff, Bool.not_true, Bool.not_false, Bool.false_eq_true, pick, List.filterMap_cons, List.filterMap_nil, z2, e]
theorem BLo_app (L : List (List Nat)) (l : List Nat) : BLo n R (L ++ [l]) = BLo n R L ++ ((L1 n).filter fun m => FB R (l, m)).map fun m => (l, m) := by
  unfold BLo
  rw [List.flatMap_append, List.flatMap_cons, List.flatMap_nil, List.append_nil]
theorem BLo_le (h2 : n ≤ 6) (L : List (List Nat)) : (BLo n R L).length ≤ L.length * 64 := by
  induction L with
  | nil => exact Nat.zero_le _
  | cons l L ih =>
    unfold BLo at ih ⊢
    rw [List.flatMap_cons, List.length_append, List.length_map, List.length_cons, Nat.add_mul]
    have h : ((L1 n).filter fun m => FB R (l, m)).length ≤ 64 := Nat.le_trans (List.length_filter_le _ _) (Nat.le_trans (List.length_filter_le _ _) (LL_64 h2))
    omega
theorem L1_64 (h2 : n ≤ 6) : (L1 n).length ≤ 64 := Nat.le_trans (List.length_filter_le _ _) (LL_64 h2)
theorem loop4 (h2 : n ≤ 6) : ∃ x6, (∀ ds, x6 ≠ .own ds) ∧ forD (itS (slA (vD 4) (oI (oA (kA (.int 1)))) (o0))) (gN 6) (lb__law_relation_right_0) [.pot, .sh (encF n R), .sh (iD n), .sh (.str (PyData.shown (encF n R))), .sh (.list ((LL n).map encT)), .sh (.list ((LL n).map fun l => encT (shr n R l))), .no, .sh (iD (MB n R)), .no, .sh (.list ((CP n R).map encC)), .sh (.list ((GB n R).map encC)), x11, x12, .own [], .no, .no, .no, .no, .no, .no, .no, .no] = .ret (.nx [.pot, .sh (encF n R), .sh (iD n), .sh (.str (PyData.shown (encF n R))), .sh (.list ((LL n).map encT)), .sh (.list ((LL n).map fun l => encT (shr n R l))), x6, .sh (iD (MB n R)), .no, .sh (.list ((CP n R).map encC)), .sh (.list ((GB n R).map encC)), x11, x12, .own ((BL n R).map encC), .no, .no, .no, .no, .no, .no, .no, .no]) := by
  obtain ⟨ρ', e, x6, hx, rfl⟩ := forI (v := 6) (body := lb__law_relation_right_0) (e := encT) (fun pre ρ => ∃ x6, (∀ ds, x6 ≠ AV.own ds) ∧ ρ = [.pot, .sh (encF n R), .sh (iD n), .sh (.str (PyData.shown (encF n R))), .sh (.list ((LL n).map encT)), .sh (.list ((LL n).map fun l => encT (shr n R l))), x6, .sh (iD (MB n R)), .no, .sh (.list ((CP n R).map encC)), .sh (.list ((GB n R).map encC)), x11, x12, .own ((BLo n R pre).map encC), .no, .no, .no, .no, .no, .no, .no, .no]) (L1 n) [.pot, .sh (encF n R), .sh (iD n), .sh (.str (PyData.shown (encF n R))), .sh (.list ((LL n).map encT)), .sh (.list ((LL n).map fun l => encT (shr n R l))), .no, .sh (iD (MB n R)), .no, .sh (.list ((CP n R).map encC)), .sh (.list ((GB n R).map encC)), x11, x12, .own [], .no, .no, .no, .no, .no, .no, .no, .no] ⟨.no, (by intro ds z; cases z), rfl⟩ (by
    rintro pre l suf _ e ⟨x, hx, rfl⟩
    have hl : Lot n l := (mem_L1.mp (by rw [e]; simp)).1
    refine ⟨_, ?_, .sh (encT l), (by intro ds z; cases z), rfl⟩
    have e4 := r4 (R := R) (x11 := x11) (x12 := x12) (B := .own ((BLo n R pre).map encC)) h2 hl
    have hlen : ((BLo n R pre).map encC).length + (((L1 n).filter fun m => FB R (l, m)).map fun m => encC (l, m)).length ≤ 1000000 := by
      rw [List.length_map, List.length_map]
      have a := BLo_le (R := R) h2 pre
      have b : ((L1 n).filter fun m => FB R (l, m)).length ≤ 64 := Nat.le_trans (List.length_filter_le _ _) (L1_64 h2)
      have c : pre.length ≤ 64 := by
        have d := congrArg List.length e
        rw [List.length_append] at d
        have := L1_64 h2
        omega
      have := Nat.mul_le_mul_right 64 c
      omega
    rw [BLo_app, List.map_append, List.map_map]
    show extD 13 (c__law_relation_right_4) [.pot, .sh (encF n R), .sh (iD n), .sh (.str (PyData.shown (encF n R))), .sh (.list ((LL n).map encT)), .sh (.list ((LL n).map fun l => encT (shr n R l))), .sh (encT l), .sh (iD (MB n R)), .no, .sh (.list ((CP n R).map encC)), .sh (.list ((GB n R).map encC)), x11, x12, .own ((BLo n R pre).map encC), .no, .no, .no, .no, .no, .no, .no, .no] = _
    simp only [runD, seqD, ifD, setD, asgD, parD, par3D, setV, extD, appD, ownAt, vD, vA, oA, kA, fzA, bin, tB, tNot, tAnd, tOr, nA, andA, orA, ifA, chA, a0, aC, b0, bC, cal, calK, isA, is2A, slA, o0, oI, ixL, itS, itZ, itE, itE2, reprL, mulOwn, gN, g0, lamA, xO, sNil, sRet, sEx, sErr, sBk, sCt, sShare, bind_ret, bind_err, slA0, slAp, slAf, slAs, slD0, slDo, slDs, calling, toB, toD, toS, toI, frz, dataA, allS, mkTup, mkLst, itemsL, itemsT, share, share1, tupG, consG, List.append_nil, List.replicate, List.getElem?_cons_zero, List.getElem?_cons_succ, List.cons_append, List.nil_append, Nat.sub_self, List.length_cons, List.length_nil, List.set_cons_zero, List.set_cons_succ, List.foldl_cons, List.foldl_nil, if_true, if_false, ite_true, ite_false, reduceCtorEq, Nat.reduceAdd, Nat.reduceSub, Nat.reduceLeDiff, Bool.not_true, Bool.not_false, Bool.false_eq_true, pick, List.filterMap_cons, List.filterMap_nil, e4, hlen]
    rfl)
  refine ⟨x6, hx, ?_⟩
  unfold forD
  have e3 : itS (slA (vD 4) (oI (oA (kA (.int 1)))) (o0)) [.pot, .sh (encF n R), .sh (iD n), .sh (.str (PyData.shown (encF n R))), .sh (.list ((LL n).map encT)), .sh (.list ((LL n).map fun l => encT (shr n R l))), .no, .sh (iD (MB n R)), .no, .sh (.list ((CP n R).map encC)), .sh (.list ((GB n R).map encC)), x11, x12, .own [], .no, .no, .no, .no, .no, .no, .no, .no] = .ret ((L1 n).map encT) := by
    simp only [runD, seqD, ifD, setD, asgD, parD, par3D, setV, extD, appD, ownAt, vD, vA, oA, kA, fzA, bin, tB, tNot, tAnd, tOr, nA, andA, orA, ifA, chA, a0, aC, b0, bC, cal, calK, isA, is2A, slA, o0, oI, ixL, itS, itZ, itE, itE2, reprL, mulOwn, gN, g0, lamA, xO, sNil, sRet, sEx, sErr, sBk, sCt, sShare, bind_ret, bind_err, slA0, slAp, slAf, slAs, slD0, slDo, slDs, calling, toB, toD, toS, toI, frz, dataA, allS, mkTup, mkLst, itemsL, itemsT, share, share1, tupG, consG, List.append_nil, List.replicate, List.getElem?_cons_zero, List.getElem?_cons_succ, List.cons_append, List.nil_append, Nat.sub_self, List.length_cons, List.length_nil, List.set_cons_zero, List.set_cons_succ, List.foldl_cons, List.foldl_nil, if_true, if_false, ite_true, ite_false, reduceCtorEq, Nat.reduceAdd, Nat.reduceSub, Nat.reduceLeDiff, Bool.not_true, Bool.not_false, Bool.false_eq_true, pick, List.filterMap_cons, List.filterMap_nil, toI, slice1, ← List.map_drop, drop_LL]
  rw [e3, bind_ret]
  exact e
theorem r7 (hp : p ∈ BL n R) {y14 : AV} (hy : ∀ ds, y14 ≠ .own ds) : c__law_relation_right_7 [.pot, .sh (encF n R), .sh (iD n), .sh (.str (PyData.shown (encF n R))), .sh (.list ((LL n).map encT)), .sh (.list ((LL n).map fun l => encT (shr n R l))), .sh (encT p.1), .sh (iD (MB n R)), .no, .sh (.list ((CP n R).map encC)), .sh (.list ((GB n R).map encC)), x11, x12, .sh (.list ((BL n R).map encC)), .sh (encT p.2), .no, .no, .no, .no, .no, .no, .no] = .ret (.own (((BL n R).filter (supB p)).map fun _ => .int 1)) := by
  refine lcD_eq (ds := (BL n R).map encC) rfl rfl (lcG (b := supB p) (fun q : List Nat × List Nat => [.pot, .sh (encF n R), .sh (iD n), .sh (.str (PyData.shown (encF n R))), .sh (.list ((LL n).map encT)), .sh (.list ((LL n).map fun l => encT (shr n R l))), .sh (encT p.1), .sh (iD (MB n R)), .no, .sh (.list ((CP n R).map encC)), .sh (.list ((GB n R).map encC)), x11, x12, .sh (.list ((BL n R).map encC)), .sh (encT p.2), .no, .sh (encT q.1), .sh (encT q.2), .no, .no, .no, .no]) _ _ (fun l _ => rfl) (fun q hq => ?_) fun q hq _ => rfl)
  have h6 : c__law_relation_right_6 [.pot, .sh (encF n R), .sh (iD n), .sh (.str (PyData.shown (encF n R))), .sh (.list ((LL n).map encT)), .sh (.list ((LL n).map fun l => encT (shr n R l))), .sh (encT p.1), .sh (iD (MB n R)), .no, .sh (.list ((CP n R).map encC)), .sh (.list ((GB n R).map encC)), x11, x12, .sh (.list ((BL n R).map encC)), .sh (encT p.2), .no, .sh (encT q.1), .sh (encT q.2), .no, .no, .no, .no] = .ret (.own (p.1.map fun x => .bool (decide (x ∈ q.1)))) := by
    refine lcD_eq (ds := p.1.map iD) (by simp only [runD, seqD, ifD, setD, asgD, parD, par3D, setV, extD, appD, ownAt, vD, vA, oA, kA, fzA, bin, tB, tNot, tAnd, tOr, nA, andA, orA, ifA, chA, a0, aC, b0, bC, cal, calK, isA, is2A, slA, o0, oI, ixL, itS, itZ, itE, itE2, reprL, mulOwn, gN, g0, lamA, xO, sNil, sRet, sEx, sErr, sBk, sCt, sShare, bind_ret, bind_err, slA0, slAp, slAf, slAs, slD0, slDo, slDs, calling, toB, toD, toS, toI, frz, dataA, allS, mkTup, mkLst, itemsL, itemsT, share, share1, tupG, consG, List.append_nil, List.replicate, List.getElem?_cons_zero, List.getElem?_cons_succ, List.cons_append, List.nil_append, Nat.sub_self, List.length_cons, List.length_nil, List.set_cons_zero, List.set_cons_succ, List.foldl_cons, List.foldl_nil, if_true, if_false, ite_true, ite_false, reduceCtorEq, Nat.reduceAdd, Nat.reduceSub, Nat.reduceLeDiff, Bool.not_true, Bool.not_false, Bool.false_eq_true, pick, List.filterMap_cons, List.filterMap_nil, items_T]) rfl (lcN1 (e := iD) _ p.1 fun x _ => ?_)
    simp only [runD, seqD, ifD, setD, asgD, parD, par3D, setV, extD, appD, ownAt, vD, vA, oA, kA, fzA, bin, tB, tNot, tAnd, tOr, nA, andA, orA, ifA, chA, a0, aC, b0, bC, cal, calK, isA, is2A, slA, o0, oI, ixL, itS, itZ, itE, itE2, reprL, mulOwn, gN, g0, lamA, xO, sNil, sRet, sEx, sErr, sBk, sCt, sShare, bind_ret, bind_err, slA0, slAp, slAf, slAs, slD0, slDo, slDs, calling, toB, toD, toS, toI, frz, dataA, allS, mkTup, mkLst, itemsL, itemsT, share, share1, tupG, consG, List.append_nil, List.replicate, List.getElem?_cons_zero, List.getElem?_cons_succ, List.cons_append, List.nil_append, Nat.sub_self, List.length_cons, List.length_nil, List.set_cons_zero, List.set_cons_succ, List.foldl_cons, List.foldl_nil, if_true, if_false, ite_true, ite_false, reduceCtorEq, Nat.reduceAdd, Nat.reduceSub, Nat.reduceLeDiff, Bool.not_true, Bool.not_false, Bool.false_eq_true, pick, List.filterMap_cons, List.filterMap_nil, mem_T, id]
  have h5 : c__law_relation_right_5 [.pot, .sh (encF n R), .sh (iD n), .sh (.str (PyData.shown (encF n R))), .sh (.list ((LL n).map encT)), .sh (.list ((LL n).map fun l => encT (shr n R l))), .sh (encT p.1), .sh (iD (MB n R)), .no, .sh (.list ((CP n R).map encC)), .sh (.list ((GB n R).map encC)), x11, x12, .sh (.list ((BL n R).map encC)), .sh (encT p.2), .no, .sh (encT q.1), .sh (encT q.2), .no, .no, .no, .no] = .ret (.own (p.2.map fun x => .bool (decide (x ∈ q.2)))) := by
    refine lcD_eq (ds := p.2.map iD) (by simp only [runD, seqD, ifD, setD, asgD, parD, par3D, setV, extD, appD, ownAt, vD, vA, oA, kA, fzA, bin, tB, tNot, tAnd, tOr, nA, andA, orA, ifA, chA, a0, aC, b0, bC, cal, calK, isA, is2A, slA, o0, oI, ixL, itS, itZ, itE, itE2, reprL, mulOwn, gN, g0, lamA, xO, sNil, sRet, sEx, sErr, sBk, sCt, sShare, bind_ret, bind_err, slA0, slAp, slAf, slAs, slD0, slDo, slDs, calling, toB, toD, toS, toI, frz, dataA, allS, mkTup, mkLst, itemsL, itemsT, share, share1, tupG, consG, List.append_nil, List.replicate, List.getElem?_cons_zero, List.getElem?_cons_succ, List.cons_append, List.nil_append, Nat.sub_self, List.length_cons, List.length_nil, List.set_cons_zero, List.set_cons_succ, List.foldl_cons, List.foldl_nil, if_true, if_false, ite_true, ite_false, reduceCtorEq, Nat.reduceAdd, Nat.reduceSub, Nat.reduceLeDiff, Bool.not_true, Bool.not_false, Bool.false_eq_true, pick, List.filterMap_cons, List.filterMap_nil, items_T]) rfl (lcN1 (e := iD) _ p.2 fun x _ => ?_)
    simp only [runD, seqD, ifD, setD, asgD, parD, par3D, setV, extD, appD, ownAt, vD, vA, oA, kA, fzA, bin, tB, tNot, tAnd, tOr, nA, andA, orA, ifA, chA, a0, aC, b0, bC, cal, calK, isA, is2A, slA, o0, oI, ixL, itS, itZ, itE, itE2, reprL, mulOwn, gN, g0, lamA, xO, sNil, sRet, sEx, sErr, sBk, sCt, sShare, bind_ret, bind_err, slA0, slAp, slAf, slAs, slD0, slDo, slDs, calling, toB, toD, toS, toI, frz, dataA, allS, mkTup, mkLst, itemsL, itemsT, share, share1, tupG, consG, List.append_nil, List.replicate, List.getElem?_cons_zero, List.getElem?_cons_succ, List.cons_append, List.nil_append, Nat.sub_self, List.length_cons, List.length_nil, List.set_cons_zero, List.set_cons_succ, List.foldl_cons, List.foldl_nil, if_true, if_false, ite_true, ite_false, reduceCtorEq, Nat.reduceAdd, Nat.reduceSub, Nat.reduceLeDiff, Bool.not_true, Bool.not_false, Bool.false_eq_true, pick, List.filterMap_cons, List.filterMap_nil, mem_T, id]
  unfold supB
  cases e1 : p.1.all fun x => decide (x ∈ q.1) <;> simp only [runD, seqD, ifD, setD, asgD, parD, par3D, setV, extD, appD, ownAt, vD, vA, oA, kA, fzA, bin, tB, tNot, tAnd, tOr, nA, andA, orA, ifA, chA, a0, aC, b0, bC, cal, calK, isA, is2A, slA, o0, oI, ixL, itS, itZ, itE, itE2, reprL, mulOwn, gN, g0, lamA, xO, sNil, sRet, sEx, sErr, sBk, sCt, sShare, bind_ret, bind_err, slA0, slAp, slAf, slAs, slD0, slDo, slDs, calling, toB, toD, toS, toI, frz, dataA, allS, mkTup, mkLst, itemsL, itemsT, share, share1, tupG, consG, List.append_nil, List.replicate, List.getElem?_cons_zero, List.getElem?_cons_succ, List.cons_append, List.nil_append, Nat.sub_self, List.length_cons, List.length_nil, List.set_cons_zero, List.set_cons_succ, List.foldl_cons, List.foldl_nil, if_true, if_false, ite_true, ite_false, reduceCtorEq, Nat.reduceAdd, Nat.reduceSub, Nat.reduceLeDiff, Bool.not_true, Bool.not_false, Bool.false_eq_true, pick, List.filterMap_cons, List.filterMap_nil, h5, h6, all_map, e1, Bool.true_and, Bool.false_and]
theorem no2 {a b : Nat} {ρ : Dn.Env} {x y : AV} (ha : ρ[a]? = some x) (hb : ρ[b]? = some y) (hx : ∀ ds, x ≠ .own ds) (hy : ∀ ds, y ≠ .own ds) : [a, b].all (notOwn ρ) = true := by
  have h1 := notOwn_of ha hx
  have h2 := notOwn_of hb hy
  rw [List.all_cons, List.all_nil, Bool.and_true] at h1 h2
  rw [List.all_cons, h1, Bool.true_and]
  exact notOwn_of hb hy
theorem not_no {ds : List PyData} : AV.no ≠ .own ds := by intro z; cases z
theorem r8 (hx : ∀ ds, x6 ≠ .own ds) : c__law_relation_right_8 [.pot, .sh (encF n R), .sh (iD n), .sh (.str (PyData.shown (encF n R))), .sh (.list ((LL n).map encT)), .sh (.list ((LL n).map fun l => encT (shr n R l))), x6, .sh (iD (MB n R)), .no, .sh (.list ((CP n R).map encC)), .sh (.list ((GB n R).map encC)), x11, x12, .sh (.list ((BL n R).map encC)), .no, .no, .no, .no, .no, .no, .no, .no] = .ret (.own ((GB n R).map encC)) := by
  refine Eq.trans ?_ (congrArg (fun l => T.ret (AV.own (l.map encC))) most_eq)
  refine lcD_eq (ds := (BL n R).map encC) rfl (no2 (x := x6) (y := .no) rfl rfl hx fun _ => not_no) (lcG (b := fun p => decide (((BL n R).filter (supB p)).length = 1)) (fun p : List Nat × List Nat => [.pot, .sh (encF n R), .sh (iD n), .sh (.str (PyData.shown (encF n R))), .sh (.list ((LL n).map encT)), .sh (.list ((LL n).map fun l => encT (shr n R l))), .sh (encT p.1), .sh (iD (MB n R)), .no, .sh (.list ((CP n R).map encC)), .sh (.list ((GB n R).map encC)), x11, x12, .sh (.list ((BL n R).map encC)), .sh (encT p.2), .no, .no, .no, .no, .no, .no, .no]) _ _ (fun l _ => rfl) (fun p hp => ?_) fun p hp _ => rfl)
  have h7 := r7 (R := R) (x11 := x11) (x12 := x12) hp (y14 := .no) fun _ => not_no
  have e1 : eqA (iD ((BL n R).filter (supB p)).length) (.int 1) = .ret (.sh (.bool (decide (((BL n R).filter (supB p)).length = 1)))) := eq_len (b := 1)
  simp only [runD, seqD, ifD, setD, asgD, parD, par3D, setV, extD, appD, ownAt, vD, vA, oA, kA, fzA, bin, tB, tNot, tAnd, tOr, nA, andA, orA, ifA, chA, a0, aC, b0, bC, cal, calK, isA, is2A, slA, o0, oI, ixL, itS, itZ, itE, itE2, reprL, mulOwn, gN, g0, lamA, xO, sNil, sRet, sEx, sErr, sBk, sCt, sShare, bind_ret, bind_err, slA0, slAp, slAf, slAs, slD0, slDo, slDs, calling, toB, toD, toS, toI, frz, dataA, allS, mkTup, mkLst, itemsL, itemsT, share, share1, tupG, consG, List.append_nil, List.replicate, List.getElem?_cons_zero, List.getElem?_cons_succ, List.cons_append, List.nil_append, Nat.sub_self, List.length_cons, List.length_nil, List.set_cons_zero, List.set_cons_succ, List.foldl_cons, List.foldl_nil, if_true, if_false, ite_true, ite_false, reduceCtorEq, Nat.reduceAdd, Nat.reduceSub, Nat.reduceLeDiff, Bool.not_true, Bool.not_false, Bool.false_eq_true, pick, List.filterMap_cons, List.filterMap_nil, h7, len_l, List.length_map, e1]
theorem r9 (h1 : 1 ≤ n) (h2 : n ≤ 6) (hx : ∀ ds, x6 ≠ .own ds) : c__law_relation_right_9 [.pot, .sh (encF n R), .sh (iD n), .sh (.str (PyData.shown (encF n R))), .sh (.list ((LL n).map encT)), .sh (.list ((LL n).map fun l => encT (shr n R l))), x6, .sh (iD (MB n R)), .no, .sh (.list ((CP n R).map encC)), .sh (.list ((GB n R).map encC)), x11, x12, .sh (.list ((BL n R).map encC)), .no, x15, .no, .no, .no, .no, .no, .no] = .ret (.own ((GB n R).map encC)) := by
  rw [← great_eq]
  refine lcD_eq (ds := (BL n R).map encC) rfl rfl (lcN (e := encC) _ encC (BL n R) (fun p hp => ?_) fun p _ _ => rfl)
  obtain ⟨a1, a2, _⟩ := mem_BL.mp hp
  simp only [runD, seqD, ifD, setD, asgD, parD, par3D, setV, extD, appD, ownAt, vD, vA, oA, kA, fzA, bin, tB, tNot, tAnd, tOr, nA, andA, orA, ifA, chA, a0, aC, b0, bC, cal, calK, isA, is2A, slA, o0, oI, ixL, itS, itZ, itE, itE2, reprL, mulOwn, gN, g0, lamA, xO, sNil, sRet, sEx, sErr, sBk, sCt, sShare, bind_ret, bind_err, slA0, slAp, slAf, slAs, slD0, slDo, slDs, calling, toB, toD, toS, toI, frz, dataA, allS, mkTup, mkLst, itemsL, itemsT, share, share1, tupG, consG, List.append_nil, List.replicate, List.getElem?_cons_zero, List.getElem?_cons_succ, List.cons_append, List.nil_append, Nat.sub_self, List.length_cons, List.length_nil, List.set_cons_zero, List.set_cons_succ, List.foldl_cons, List.foldl_nil, if_true, if_false, ite_true, ite_false, reduceCtorEq, Nat.reduceAdd, Nat.reduceSub, Nat.reduceLeDiff, Bool.not_true, Bool.not_false, Bool.false_eq_true, pick, List.filterMap_cons, List.filterMap_nil, e_is_greatest_block h1 h2 a1 a2]
theorem small (h1 : 1 ≤ n) (h2 : n ≤ 6) : ∃ x6 x13 x15, (∀ ds, x6 ≠ .own ds) ∧ seqD (setD 13 (cal mkLst (a0))) (seqD (forD (itS (slA (vD 4) (oI (oA (kA (.int 1)))) (o0))) (gN 6) (lb__law_relation_right_0)) (seqD (ifD (tB (bin neA (oA (cal lenD (bC (vD 13) (b0)))) (vD 7))) (sRet (kA (.bool false))) (sNil)) (seqD (sShare [13] (setD 15 (c__law_relation_right_8))) (sShare [13] (ifD (tOr (tB (bin neA (vD 15) (vD 10))) (tB (bin neA (oA (c__law_relation_right_9)) (vD 10)))) (sRet (kA (.bool false))) (sNil)))))) [.pot, .sh (encF n R), .sh (iD n), .sh (.str (PyData.shown (encF n R))), .sh (.list ((LL n).map encT)), .sh (.list ((LL n).map fun l => encT (shr n R l))), .no, .sh (iD (MB n R)), .no, .sh (.list ((CP n R).map encC)), .sh (.list ((GB n R).map encC)), x11, x12, .no, .no, .no, .no, .no, .no, .no, .no, .no] = .ret (.nx [.pot, .sh (encF n R), .sh (iD n), .sh (.str (PyData.shown (encF n R))), .sh (.list ((LL n).map encT)), .sh (.list ((LL n).map fun l => encT (shr n R l))), x6, .sh (iD (MB n R)), .no, .sh (.list ((CP n R).map encC)), .sh (.list ((GB n R).map encC)), x11, x12, x13, .no, x15, .no, .no, .no, .no, .no, .no]) := by
  obtain ⟨x6, hx, e⟩ := loop4 (R := R) (x11 := x11) (x12 := x12) h2
  refine ⟨x6, .sh (.list ((BL n R).map encC)), .own ((GB n R).map encC), hx, ?_⟩
  rw [seq_nx (ρ' := [.pot, .sh (encF n R), .sh (iD n), .sh (.str (PyData.shown (encF n R))), .sh (.list ((LL n).map encT)), .sh (.list ((LL n).map fun l => encT (shr n R l))), .no, .sh (iD (MB n R)), .no, .sh (.list ((CP n R).map encC)), .sh (.list ((GB n R).map encC)), x11, x12, .own [], .no, .no, .no, .no, .no, .no, .no, .no]) rfl, seq_nx e]
  rw [seq_nx (ρ' := [.pot, .sh (encF n R), .sh (iD n), .sh (.str (PyData.shown (encF n R))), .sh (.list ((LL n).map encT)), .sh (.list ((LL n).map fun l => encT (shr n R l))), x6, .sh (iD (MB n R)), .no, .sh (.list ((CP n R).map encC)), .sh (.list ((GB n R).map encC)), x11, x12, .own ((BL n R).map encC), .no, .no, .no, .no, .no, .no, .no, .no]) (if_f (f := sRet (kA (.bool false))) (g := sNil) (by simp only [runD, seqD, ifD, setD, asgD, parD, par3D, setV, extD, appD, ownAt, vD, vA, oA, kA, fzA, bin, tB, tNot, tAnd, tOr, nA, andA, orA, ifA, chA, a0, aC, b0, bC, cal, calK, isA, is2A, slA, o0, oI, ixL, itS, itZ, itE, itE2, reprL, mulOwn, gN, g0, lamA, xO, sNil, sRet, sEx, sErr, sBk, sCt, sShare, bind_ret, bind_err, slA0, slAp, slAf, slAs, slD0, slDo, slDs, calling, toB, toD, toS, toI, frz, dataA, allS, mkTup, mkLst, itemsL, itemsT, share, share1, tupG, consG, List.append_nil, List.replicate, List.getElem?_cons_zero, List.getElem?_cons_succ, List.cons_append, List.nil_append, Nat.sub_self, List.length_cons, List.length_nil, List.set_cons_zero, List.set_cons_succ, List.foldl_cons, List.foldl_nil, if_true, if_false, ite_true, ite_false, reduceCtorEq, Nat.reduceAdd, Nat.reduceSub, Nat.reduceLeDiff, Bool.not_true, Bool.not_false, Bool.false_eq_true, pick, List.filterMap_cons, List.filterMap_nil, len_l, List.length_map, BL_len, ne_len, decide_true]))]
  have e8 := r8 (n := n) (R := R) (x11 := x11) (x12 := x12) hx
  have e9 := r9 (R := R) (x11 := x11) (x12 := x12) (x15 := .own ((GB n R).map encC)) h1 h2 hx
  rw [seq_nx (ρ' := [.pot, .sh (encF n R), .sh (iD n), .sh (.str (PyData.shown (encF n R))), .sh (.list ((LL n).map encT)), .sh (.list ((LL n).map fun l => encT (shr n R l))), x6, .sh (iD (MB n R)), .no, .sh (.list ((CP n R).map encC)), .sh (.list ((GB n R).map encC)), x11, x12, .sh (.list ((BL n R).map encC)), .no, .own ((GB n R).map encC), .no, .no, .no, .no, .no, .no]) (set_ok e8 (by intro z; cases z))]
  exact if_f (f := sRet (kA (.bool false))) (g := sNil) (by simp only [runD, seqD, ifD, setD, asgD, parD, par3D, setV, extD, appD, ownAt, vD, vA, oA, kA, fzA, bin, tB, tNot, tAnd, tOr, nA, andA, orA, ifA, chA, a0, aC, b0, bC, cal, calK, isA, is2A, slA, o0, oI, ixL, itS, itZ, itE, itE2, reprL, mulOwn, gN, g0, lamA, xO, sNil, sRet, sEx, sErr, sBk, sCt, sShare, bind_ret, bind_err, slA0, slAp, slAf, slAs, slD0, slDo, slDs, calling, toB, toD, toS, toI, frz, dataA, allS, mkTup, mkLst, itemsL, itemsT, share, share1, tupG, consG, List.append_nil, List.replicate, List.getElem?_cons_zero, List.getElem?_cons_succ, List.cons_append, List.nil_append, Nat.sub_self, List.length_cons, List.length_nil, List.set_cons_zero, List.set_cons_succ, List.foldl_cons, List.foldl_nil, if_true, if_false, ite_true, ite_false, reduceCtorEq, Nat.reduceAdd, Nat.reduceSub, Nat.reduceLeDiff, Bool.not_true, Bool.not_false, Bool.false_eq_true, pick, List.filterMap_cons, List.filterMap_nil, e9, ne_LL])
end
end Mf
end
section
set_option Elab.async false
set_option linter.all false
set_option autoImplicit false
set_option maxRecDepth 100000
set_option maxHeartbeats 1600000
/-! K8 (k71): all that is asked of one relation, its end. -/
namespace Mf
open PySem Dn Wk
open Classical

section
variable {n : Nat} {R : Nat → Nat → Bool} {l m : List Nat} {p q : List Nat × List Nat}
variable {x6 x11 x12 x13 x14 x15 x20 : AV}
theorem r10 (h2 : n ≤ 6) (hx : ∀ ds, x6 ≠ .own ds) : c__law_relation_right_10 [.pot, .sh (encF n R), .sh (iD n), .sh (.str (PyData.shown (encF n R))), .sh (.list ((LL n).map encT)), .sh (.list ((LL n).map fun l => encT (shr n R l))), x6, .sh (iD (MB n R)), .no, .sh (.list ((CP n R).map encC)), .sh (.list ((GB n R).map encC)), x11, x12, x13, .no, x15, .no, .no, .no, .no, .no, .no] = .ret (.own (((GB n R).map fun p => p.1.length * p.2.length).map iD)) := by
  rw [List.map_map]
  refine lcD_eq (ds := (GB n R).map encC) rfl (no2 (x := x6) (y := .no) rfl rfl hx fun _ => not_no) ((lcG (fun p : List Nat × List Nat => [.pot, .sh (encF n R), .sh (iD n), .sh (.str (PyData.shown (encF n R))), .sh (.list ((LL n).map encT)), .sh (.list ((LL n).map fun l => encT (shr n R l))), .sh (encT p.1), .sh (iD (MB n R)), .no, .sh (.list ((CP n R).map encC)), .sh (.list ((GB n R).map encC)), x11, x12, x13, .sh (encT p.2), x15, .no, .no, .no, .no, .no, .no]) (fun _ => true) (iD ∘ fun p => p.1.length * p.2.length) (GB n R) (fun p _ => rfl) (fun p _ => rfl) fun p hp _ => ?_).trans (by rw [List.filter_eq_self.mpr fun _ _ => rfl]))
  have := (GB_lot hp).1.len
  simp only [runD, seqD, ifD, setD, asgD, parD, par3D, setV, extD, appD, ownAt, vD, vA, oA, kA, fzA, bin, tB, tNot, tAnd, tOr, nA, andA, orA, ifA, chA, a0, aC, b0, bC, cal, calK, isA, is2A, slA, o0, oI, ixL, itS, itZ, itE, itE2, reprL, mulOwn, gN, g0, lamA, xO, sNil, sRet, sEx, sErr, sBk, sCt, sShare, bind_ret, bind_err, slA0, slAp, slAf, slAs, slD0, slDo, slDs, calling, toB, toD, toS, toI, frz, dataA, allS, mkTup, mkLst, itemsL, itemsT, share, share1, tupG, consG, List.append_nil, List.replicate, List.getElem?_cons_zero, List.getElem?_cons_succ, List.cons_append, List.nil_append, Nat.sub_self, List.length_cons, List.length_nil, List.set_cons_zero, List.set_cons_succ, List.foldl_cons, List.foldl_nil, if_true, if_false, ite_true, ite_false, reduceCtorEq, Nat.reduceAdd, Nat.reduceSub, Nat.reduceLeDiff, Bool.not_true, Bool.not_false, Bool.false_eq_true, pick, List.filterMap_cons, List.filterMap_nil, len_T, mul_iD (small64 (show p.1.length ≤ 6 by omega)), Function.comp]
theorem r11 (h2 : n ≤ 6) (hx : ∀ ds, x6 ≠ .own ds) : c__law_relation_right_11 [.pot, .sh (encF n R), .sh (iD n), .sh (.str (PyData.shown (encF n R))), .sh (.list ((LL n).map encT)), .sh (.list ((LL n).map fun l => encT (shr n R l))), x6, .sh (iD (MB n R)), .no, .sh (.list ((CP n R).map encC)), .sh (.list ((GB n R).map encC)), x11, x12, x13, .no, x15, .no, .no, .no, .sh (iD (WD n R)), .no, .no] = .ret (.own ((BS n R).map encC)) := by
  refine lcD_eq (ds := (GB n R).map encC) rfl (no2 (x := x6) (y := .no) rfl rfl hx fun _ => not_no) (lcG (fun p : List Nat × List Nat => [.pot, .sh (encF n R), .sh (iD n), .sh (.str (PyData.shown (encF n R))), .sh (.list ((LL n).map encT)), .sh (.list ((LL n).map fun l => encT (shr n R l))), .sh (encT p.1), .sh (iD (MB n R)), .no, .sh (.list ((CP n R).map encC)), .sh (.list ((GB n R).map encC)), x11, x12, x13, .sh (encT p.2), x15, .no, .no, .no, .sh (iD (WD n R)), .no, .no]) (fun p => decide (p.1.length * p.2.length = WD n R)) encC (GB n R) (fun p _ => rfl) (fun p hp => ?_) fun p hp _ => rfl)
  have := (GB_lot hp).1.len
  simp only [runD, seqD, ifD, setD, asgD, parD, par3D, setV, extD, appD, ownAt, vD, vA, oA, kA, fzA, bin, tB, tNot, tAnd, tOr, nA, andA, orA, ifA, chA, a0, aC, b0, bC, cal, calK, isA, is2A, slA, o0, oI, ixL, itS, itZ, itE, itE2, reprL, mulOwn, gN, g0, lamA, xO, sNil, sRet, sEx, sErr, sBk, sCt, sShare, bind_ret, bind_err, slA0, slAp, slAf, slAs, slD0, slDo, slDs, calling, toB, toD, toS, toI, frz, dataA, allS, mkTup, mkLst, itemsL, itemsT, share, share1, tupG, consG, List.append_nil, List.replicate, List.getElem?_cons_zero, List.getElem?_cons_succ, List.cons_append, List.nil_append, Nat.sub_self, List.length_cons, List.length_nil, List.set_cons_zero, List.set_cons_succ, List.foldl_cons, List.foldl_nil, if_true, if_false, ite_true, ite_false, reduceCtorEq, Nat.reduceAdd, Nat.reduceSub, Nat.reduceLeDiff, Bool.not_true, Bool.not_false, Bool.false_eq_true, pick, List.filterMap_cons, List.filterMap_nil, len_T, mul_iD (small64 (show p.1.length ≤ 6 by omega)), eq_len]
theorem BS_mem (h : p ∈ BS n R) : Lot n p.1 ∧ Lot n p.2 := GB_lot (List.mem_filter.mp h).1
theorem rp_best (h2 : n ≤ 6) : Rp 100 2 (bestP n R) := by
  unfold bestP
  cases h : BS n R with
  | nil => exact Rp.non.mono (by decide) (by decide)
  | cons p r =>
    obtain ⟨a, b⟩ := BS_mem (p := p) (R := R) (n := n) (by rw [h]; exact List.mem_cons_self)
    exact rp_C h2 a b
theorem s20 : setD 20 (fzA (ifA (tB (bin neA (vD 20) (oA (cal mkLst (a0))))) (bin ixD (vD 20) (oA (kA (.int 0)))) (kA .none))) [.pot, .sh (encF n R), .sh (iD n), .sh (.str (PyData.shown (encF n R))), .sh (.list ((LL n).map encT)), .sh (.list ((LL n).map fun l => encT (shr n R l))), x6, .sh (iD (MB n R)), .no, .sh (.list ((CP n R).map encC)), .sh (.list ((GB n R).map encC)), x11, x12, x13, .no, x15, .no, .no, .no, .sh (iD (WD n R)), .own ((BS n R).map encC), .no] = .ret (.nx [.pot, .sh (encF n R), .sh (iD n), .sh (.str (PyData.shown (encF n R))), .sh (.list ((LL n).map encT)), .sh (.list ((LL n).map fun l => encT (shr n R l))), x6, .sh (iD (MB n R)), .no, .sh (.list ((CP n R).map encC)), .sh (.list ((GB n R).map encC)), x11, x12, x13, .no, x15, .no, .no, .no, .sh (iD (WD n R)), .sh (bestP n R), .no]) := by
  unfold bestP
  cases hb : BS n R with
  | nil =>
    have e3 : neA (.list []) (.list []) = .ret (.sh (.bool false)) := ne_LC (L := [])
    simp only [runD, seqD, ifD, setD, asgD, parD, par3D, setV, extD, appD, ownAt, vD, vA, oA, kA, fzA, bin, tB, tNot, tAnd, tOr, nA, andA, orA, ifA, chA, a0, aC, b0, bC, cal, calK, isA, is2A, slA, o0, oI, ixL, itS, itZ, itE, itE2, reprL, mulOwn, gN, g0, lamA, xO, sNil, sRet, sEx, sErr, sBk, sCt, sShare, bind_ret, bind_err, slA0, slAp, slAf, slAs, slD0, slDo, slDs, calling, toB, toD, toS, toI, frz, dataA, allS, mkTup, mkLst, itemsL, itemsT, share, share1, tupG, consG, List.append_nil, List.replicate, List.getElem?_cons_zero, List.getElem?_cons_succ, List.cons_append, List.nil_append, Nat.sub_self, List.length_cons, List.length_nil, List.set_cons_zero, List.set_cons_succ, List.foldl_cons, List.foldl_nil, if_true, if_false, ite_true, ite_false, reduceCtorEq, Nat.reduceAdd, Nat.reduceSub, Nat.reduceLeDiff, Bool.not_true, Bool.not_false, Bool.false_eq_true, pick, List.filterMap_cons, List.filterMap_nil, List.map_nil, e3]
  | cons p r =>
    have e3 : neA (.list (encC p :: r.map encC)) (.list []) = .ret (.sh (.bool true)) := ne_LC (L := p :: r)
    have e4 : ixD (.list (encC p :: r.map encC)) (.int 0) = .ret (.sh (encC p)) := ix_list (i := 0) rfl
    simp only [runD, seqD, ifD, setD, asgD, parD, par3D, setV, extD, appD, ownAt, vD, vA, oA, kA, fzA, bin, tB, tNot, tAnd, tOr, nA, andA, orA, ifA, chA, a0, aC, b0, bC, cal, calK, isA, is2A, slA, o0, oI, ixL, itS, itZ, itE, itE2, reprL, mulOwn, gN, g0, lamA, xO, sNil, sRet, sEx, sErr, sBk, sCt, sShare, bind_ret, bind_err, slA0, slAp, slAf, slAs, slD0, slDo, slDs, calling, toB, toD, toS, toI, frz, dataA, allS, mkTup, mkLst, itemsL, itemsT, share, share1, tupG, consG, List.append_nil, List.replicate, List.getElem?_cons_zero, List.getElem?_cons_succ, List.cons_append, List.nil_append, Nat.sub_self, List.length_cons, List.length_nil, List.set_cons_zero, List.set_cons_succ, List.foldl_cons, List.foldl_nil, if_true, if_false, ite_true, ite_false, reduceCtorEq, Nat.reduceAdd, Nat.reduceSub, Nat.reduceLeDiff, Bool.not_true, Bool.not_false, Bool.false_eq_true, pick, List.filterMap_cons, List.filterMap_nil, List.map_cons, e3, e4]
theorem r13 (h2 : n ≤ 6) (hx : ∀ ds, x6 ≠ .own ds) : c__law_relation_right_13 [.pot, .sh (encF n R), .sh (iD n), .sh (.str (PyData.shown (encF n R))), .sh (.list ((LL n).map encT)), .sh (.list ((LL n).map fun l => encT (shr n R l))), x6, .sh (iD (MB n R)), .no, .sh (.list ((CP n R).map encC)), .sh (.list ((GB n R).map encC)), x11, x12, x13, .no, x15, .no, .no, .no, .sh (iD (WD n R)), .sh (bestP n R), .no] = .ret (.own ((PR n R).map fun a => .bool ((GB n R).any fun p => decide (a.1 ∈ p.1) && decide (a.2 ∈ p.2)))) := by
  refine lcD_eq (ds := (PR n R).map encP) (by simp only [runD, seqD, ifD, setD, asgD, parD, par3D, setV, extD, appD, ownAt, vD, vA, oA, kA, fzA, bin, tB, tNot, tAnd, tOr, nA, andA, orA, ifA, chA, a0, aC, b0, bC, cal, calK, isA, is2A, slA, o0, oI, ixL, itS, itZ, itE, itE2, reprL, mulOwn, gN, g0, lamA, xO, sNil, sRet, sEx, sErr, sBk, sCt, sShare, bind_ret, bind_err, slA0, slAp, slAf, slAs, slD0, slDo, slDs, calling, toB, toD, toS, toI, frz, dataA, allS, mkTup, mkLst, itemsL, itemsT, share, share1, tupG, consG, List.append_nil, List.replicate, List.getElem?_cons_zero, List.getElem?_cons_succ, List.cons_append, List.nil_append, Nat.sub_self, List.length_cons, List.length_nil, List.set_cons_zero, List.set_cons_succ, List.foldl_cons, List.foldl_nil, if_true, if_false, ite_true, ite_false, reduceCtorEq, Nat.reduceAdd, Nat.reduceSub, Nat.reduceLeDiff, Bool.not_true, Bool.not_false, Bool.false_eq_true, pick, List.filterMap_cons, List.filterMap_nil, e__law_pairs h2]) rfl ((lcG (fun a : Nat × Nat => [.pot, .sh (encF n R), .sh (iD n), .sh (.str (PyData.shown (encF n R))), .sh (.list ((LL n).map encT)), .sh (.list ((LL n).map fun l => encT (shr n R l))), x6, .sh (iD (MB n R)), .no, .sh (.list ((CP n R).map encC)), .sh (.list ((GB n R).map encC)), x11, x12, x13, .sh (iD a.2), x15, .sh (iD a.1), .no, .no, .sh (iD (WD n R)), .sh (bestP n R), .no]) (fun _ => true) (fun a => .bool ((GB n R).any fun p => decide (a.1 ∈ p.1) && decide (a.2 ∈ p.2))) (PR n R) (fun a _ => rfl) (fun a _ => rfl) fun a ha _ => ?_).trans (by rw [List.filter_eq_self.mpr fun _ _ => rfl]))
  have h12 : c__law_relation_right_12 [.pot, .sh (encF n R), .sh (iD n), .sh (.str (PyData.shown (encF n R))), .sh (.list ((LL n).map encT)), .sh (.list ((LL n).map fun l => encT (shr n R l))), x6, .sh (iD (MB n R)), .no, .sh (.list ((CP n R).map encC)), .sh (.list ((GB n R).map encC)), x11, x12, x13, .sh (iD a.2), x15, .sh (iD a.1), .no, .no, .sh (iD (WD n R)), .sh (bestP n R), .no] = .ret (.own ((GB n R).map fun p => .bool (decide (a.1 ∈ p.1) && decide (a.2 ∈ p.2)))) := by
    refine lcD_eq (ds := (GB n R).map encC) rfl (no2 (x := x6) (y := .no) rfl rfl hx fun _ => not_no) ((lcG (fun p : List Nat × List Nat => [.pot, .sh (encF n R), .sh (iD n), .sh (.str (PyData.shown (encF n R))), .sh (.list ((LL n).map encT)), .sh (.list ((LL n).map fun l => encT (shr n R l))), .sh (encT p.1), .sh (iD (MB n R)), .no, .sh (.list ((CP n R).map encC)), .sh (.list ((GB n R).map encC)), x11, x12, x13, .sh (iD a.2), x15, .sh (iD a.1), .sh (encT p.2), .no, .sh (iD (WD n R)), .sh (bestP n R), .no]) (fun _ => true) (fun p => .bool (decide (a.1 ∈ p.1) && decide (a.2 ∈ p.2))) (GB n R) (fun p _ => rfl) (fun p _ => rfl) fun p hp _ => ?_).trans (by rw [List.filter_eq_self.mpr fun _ _ => rfl]))
    cases e : decide (a.1 ∈ p.1) <;> simp only [runD, seqD, ifD, setD, asgD, parD, par3D, setV, extD, appD, ownAt, vD, vA, oA, kA, fzA, bin, tB, tNot, tAnd, tOr, nA, andA, orA, ifA, chA, a0, aC, b0, bC, cal, calK, isA, is2A, slA, o0, oI, ixL, itS, itZ, itE, itE2, reprL, mulOwn, gN, g0, lamA, xO, sNil, sRet, sEx, sErr, sBk, sCt, sShare, bind_ret, bind_err, slA0, slAp, slAf, slAs, slD0, slDo, slDs, calling, toB, toD, toS, toI, frz, dataA, allS, mkTup, mkLst, itemsL, itemsT, share, share1, tupG, consG, List.append_nil, List.replicate, List.getElem?_cons_zero, List.getElem?_cons_succ, List.cons_append, List.nil_append, Nat.sub_self, List.length_cons, List.length_nil, List.set_cons_zero, List.set_cons_succ, List.foldl_cons, List.foldl_nil, if_true, if_false, ite_true, ite_false, reduceCtorEq, Nat.reduceAdd, Nat.reduceSub, Nat.reduceLeDiff, Bool.not_true, Bool.not_false, Bool.false_eq_true, pick, List.filterMap_cons, List.filterMap_nil, mem_T, id, e, Bool.true_and, Bool.false_and]
  simp only [runD, seqD, ifD, setD, asgD, parD, par3D, setV, extD, appD, ownAt, vD, vA, oA, kA, fzA, bin, tB, tNot, tAnd, tOr, nA, andA, orA, ifA, chA, a0, aC, b0, bC, cal, calK, isA, is2A, slA, o0, oI, ixL, itS, itZ, itE, itE2, reprL, mulOwn, gN, g0, lamA, xO, sNil, sRet, sEx, sErr, sBk, sCt, sShare, bind_ret, bind_err, slA0, slAp, slAf, slAs, slD0, slDo, slDs, calling, toB, toD, toS, toI, frz, dataA, allS, mkTup, mkLst, itemsL, itemsT, share, share1, tupG, consG, List.append_nil, List.replicate, List.getElem?_cons_zero, List.getElem?_cons_succ, List.cons_append, List.nil_append, Nat.sub_self, List.length_cons, List.length_nil, List.set_cons_zero, List.set_cons_succ, List.foldl_cons, List.foldl_nil, if_true, if_false, ite_true, ite_false, reduceCtorEq, Nat.reduceAdd, Nat.reduceSub, Nat.reduceLeDiff, Bool.not_true, Bool.not_false, Bool.false_eq_true, pick, List.filterMap_cons, List.filterMap_nil, h12, any_map]
theorem all_in : ((PR n R).all fun a => (GB n R).any fun p => decide (a.1 ∈ p.1) && decide (a.2 ∈ p.2)) = true := by
  rw [List.all_eq_true]
  intro a ha
  obtain ⟨h1, h2, h3⟩ := mem_PR.mp ha
  obtain ⟨p, hp, k1, k2⟩ := pair_in h1 h2 h3
  exact List.any_eq_true.mpr ⟨p, hp, by rw [decide_eq_true k1, decide_eq_true k2]; rfl⟩
theorem r14 (h1 : 1 ≤ n) (h2 : n ≤ 6) (hx : ∀ ds, x6 ≠ .own ds) : c__law_relation_right_14 [.pot, .sh (encF n R), .sh (iD n), .sh (.str (PyData.shown (encF n R))), .sh (.list ((LL n).map encT)), .sh (.list ((LL n).map fun l => encT (shr n R l))), x6, .sh (iD (MB n R)), .no, .sh (.list ((CP n R).map encC)), .sh (.list ((GB n R).map encC)), x11, x12, x13, .no, x15, .no, .no, .no, .sh (iD (WD n R)), .sh (bestP n R), .sh (encF n (tr R))] = .ret (.own ((CP n (tr R)).map fun p => encC (p.2, p.1))) := by
  refine lcD_eq (ds := (CP n (tr R)).map encC) (by simp only [runD, seqD, ifD, setD, asgD, parD, par3D, setV, extD, appD, ownAt, vD, vA, oA, kA, fzA, bin, tB, tNot, tAnd, tOr, nA, andA, orA, ifA, chA, a0, aC, b0, bC, cal, calK, isA, is2A, slA, o0, oI, ixL, itS, itZ, itE, itE2, reprL, mulOwn, gN, g0, lamA, xO, sNil, sRet, sEx, sErr, sBk, sCt, sShare, bind_ret, bind_err, slA0, slAp, slAf, slAs, slD0, slDo, slDs, calling, toB, toD, toS, toI, frz, dataA, allS, mkTup, mkLst, itemsL, itemsT, share, share1, tupG, consG, List.append_nil, List.replicate, List.getElem?_cons_zero, List.getElem?_cons_succ, List.cons_append, List.nil_append, Nat.sub_self, List.length_cons, List.length_nil, List.set_cons_zero, List.set_cons_succ, List.foldl_cons, List.foldl_nil, if_true, if_false, ite_true, ite_false, reduceCtorEq, Nat.reduceAdd, Nat.reduceSub, Nat.reduceLeDiff, Bool.not_true, Bool.not_false, Bool.false_eq_true, pick, List.filterMap_cons, List.filterMap_nil, e_closed_couples h1 h2]) (no2 (x := x6) (y := .no) rfl rfl hx fun _ => not_no) ((lcG (fun p : List Nat × List Nat => [.pot, .sh (encF n R), .sh (iD n), .sh (.str (PyData.shown (encF n R))), .sh (.list ((LL n).map encT)), .sh (.list ((LL n).map fun l => encT (shr n R l))), .sh (encT p.1), .sh (iD (MB n R)), .no, .sh (.list ((CP n R).map encC)), .sh (.list ((GB n R).map encC)), x11, x12, x13, .no, x15, .no, .sh (encT p.2), .no, .sh (iD (WD n R)), .sh (bestP n R), .sh (encF n (tr R))]) (fun _ => true) (fun p => encC (p.2, p.1)) (CP n (tr R)) (fun p _ => rfl) (fun p _ => rfl) fun p hp _ => rfl).trans (by rw [List.filter_eq_self.mpr fun _ _ => rfl]))
theorem sort14 : sortedD [.list ((CP n (tr R)).map fun p => encC (p.2, p.1))] = .ret (.own ((CP n R).map encC)) := by
  refine sorted_SS (CP_SS n R) ?_ (fun a _ => tupB_C a) fun a _ b _ => alike_C a b
  have h := (swap_perm (n := n) (R := R)).map encC
  rw [List.map_map] at h
  exact h
theorem ne_FF {R S : Nat → Nat → Bool} (h : encF n R = encF n S) (hn : n ≤ 6) : neA (encF n R) (encF n S) = .ret (.sh (.bool false)) := by
  rw [neA_d (ok_encF n R) (ok_encF n S), decide_eq_true h]
  rfl
theorem rp_CP (h2 : n ≤ 6) : Rp 7000 3 (.list ((CP n R).map encC)) := (Rp.list (n := 64) (k := 100) (m := 2) (fun x hx => by
  obtain ⟨p, hp, rfl⟩ := List.mem_map.mp hx
  obtain ⟨a, b, _⟩ := mem_CP.mp hp
  exact rp_C h2 a b) (by rw [List.length_map]; exact CP_64 h2)).mono (by decide) (by decide)
theorem rp_GB (h2 : n ≤ 6) : Rp 7000 3 (.list ((GB n R).map encC)) := (Rp.list (n := 64) (k := 100) (m := 2) (fun x hx => by
  obtain ⟨p, hp, rfl⟩ := List.mem_map.mp hx
  obtain ⟨a, b⟩ := GB_lot hp
  exact rp_C h2 a b) (by rw [List.length_map]; exact GB_64 h2)).mono (by decide) (by decide)
theorem MB_le (h2 : n ≤ 6) : MB n R < 1000000000 := by
  have h : ∀ L : List (List Nat), (L.map (wgt n R)).sum ≤ L.length * 64 := fun L => by
    induction L with
    | nil => exact Nat.zero_le _
    | cons l L ih =>
      rw [List.map_cons, List.sum_cons, List.length_cons]
      have := wgt_le (R := R) (l := l) h2
      omega
  have h3 := h (L1 n)
  have h4 := L1_64 h2
  have h5 : MB n R = ((L1 n).map (wgt n R)).sum := rfl
  rw [h5]
  omega
end
end Mf
end
section
set_option Elab.async false
set_option linter.all false
set_option autoImplicit false
set_option maxRecDepth 100000
set_option maxHeartbeats 3200000
/-! K9 (k71): _law_relation_right. -/
namespace Mf
open PySem Dn Wk
open Classical

section
variable {n : Nat} {R : Nat → Nat → Bool} {l m : List Nat} {p q : List Nat × List Nat}
variable {x6 x11 x12 x13 x14 x15 x20 : AV}
theorem rep4 (h2 : n ≤ 6) : reprD [.list [.list ((CP n R).map encC), .list ((CP n R).map encC), .list ((GB n R).map encC), .list ((GB n R).map encC)]] = .ret (.sh (.str (PyData.shown (.list [.list ((CP n R).map encC), .list ((CP n R).map encC), .list ((GB n R).map encC), .list ((GB n R).map encC)])))) := repr_ls (k := 7000) (m := 3) (fun x hx => by
  rcases List.mem_cons.mp hx with rfl | hx
  · exact rp_CP h2
  rcases List.mem_cons.mp hx with rfl | hx
  · exact rp_CP h2
  rcases List.mem_cons.mp hx with rfl | hx
  · exact rp_GB h2
  · rw [List.mem_singleton.mp hx]; exact rp_GB h2) (by decide) (by decide) (by simp)
theorem e__law_relation_right (h1 : 1 ≤ n) (h2 : n ≤ 6) : Hold (d__law_relation_right [.pot, .sh (encF n R)]) fun av => av = .sh (.bool true) := by
  rw [q__law_relation_right]
  refine hrun ?_
  unfold b__law_relation_right
  have n1 : n ≤ 1000 := by omega
  have z2 : (2 : Nat) ≤ 4000 := by omega
  have z4 : (4 : Nat) ≤ 4000 := by omega
  refine hs (ρ' := [.pot, .sh (encF n R), .sh (iD n), .sh (.str (PyData.shown (encF n R))), .no, .no, .no, .no, .no, .no, .no, .no, .no, .no, .no, .no, .no, .no, .no, .no, .no, .no]) (by simp only [runD, seqD, ifD, setD, asgD, parD, par3D, setV, extD, appD, ownAt, vD, vA, oA, kA, fzA, bin, tB, tNot, tAnd, tOr, nA, andA, orA, ifA, chA, a0, aC, b0, bC, cal, calK, isA, is2A, slA, o0, oI, ixL, itS, itZ, itE, itE2, reprL, mulOwn, gN, g0, lamA, xO, sNil, sRet, sEx, sErr, sBk, sCt, sShare, bind_ret, bind_err, slA0, slAp, slAf, slAs, slD0, slDo, slDs, calling, toB, toD, toS, toI, frz, dataA, allS, mkTup, mkLst, itemsL, itemsT, share, share1, tupG, consG, List.append_nil, List.replicate, List.getElem?_cons_zero, List.getElem?_cons_succ, List.cons_append, List.nil_append, Nat.sub_self, List.length_cons, List.length_nil, List.set_cons_zero, List.set_cons_succ, List.foldl_cons, List.foldl_nil, if_true, if_false, ite_true, ite_false, reduceCtorEq, Nat.reduceAdd, Nat.reduceSub, Nat.reduceLeDiff, Bool.not_true, Bool.not_false, Bool.false_eq_true, pick, List.filterMap_cons, List.filterMap_nil, len_F, repr_F R h2]) ?_
  refine hs (ρ' := [.pot, .sh (encF n R), .sh (iD n), .sh (.str (PyData.shown (encF n R))), .sh (.list ((LL n).map encT)), .no, .no, .no, .no, .no, .no, .no, .no, .no, .no, .no, .no, .no, .no, .no, .no, .no]) (by simp only [runD, seqD, ifD, setD, asgD, parD, par3D, setV, extD, appD, ownAt, vD, vA, oA, kA, fzA, bin, tB, tNot, tAnd, tOr, nA, andA, orA, ifA, chA, a0, aC, b0, bC, cal, calK, isA, is2A, slA, o0, oI, ixL, itS, itZ, itE, itE2, reprL, mulOwn, gN, g0, lamA, xO, sNil, sRet, sEx, sErr, sBk, sCt, sShare, bind_ret, bind_err, slA0, slAp, slAf, slAs, slD0, slDo, slDs, calling, toB, toD, toS, toI, frz, dataA, allS, mkTup, mkLst, itemsL, itemsT, share, share1, tupG, consG, List.append_nil, List.replicate, List.getElem?_cons_zero, List.getElem?_cons_succ, List.cons_append, List.nil_append, Nat.sub_self, List.length_cons, List.length_nil, List.set_cons_zero, List.set_cons_succ, List.foldl_cons, List.foldl_nil, if_true, if_false, ite_true, ite_false, reduceCtorEq, Nat.reduceAdd, Nat.reduceSub, Nat.reduceLeDiff, Bool.not_true, Bool.not_false, Bool.false_eq_true, pick, List.filterMap_cons, List.filterMap_nil, e__law_lots h2]) ?_
  refine hs (ρ' := [.pot, .sh (encF n R), .sh (iD n), .sh (.str (PyData.shown (encF n R))), .sh (.list ((LL n).map encT)), .own ((LL n).map fun l => encT (shr n R l)), .no, .no, .no, .no, .no, .no, .no, .no, .no, .no, .no, .no, .no, .no, .no, .no]) (set_ok (r0 h1 h2) (by intro z; cases z)) ?_
  refine hs (ρ' := [.pot, .sh (encF n R), .sh (iD n), .sh (.str (PyData.shown (encF n R))), .sh (.list ((LL n).map encT)), .sh (.list ((LL n).map fun l => encT (shr n R l))), .no, .sh (iD (MB n R)), .no, .no, .no, .no, .no, .no, .no, .no, .no, .no, .no, .no, .no, .no]) (by
    have e1 := r1 (R := R) h2
    have e2 : sumD [.list (((L1 n).map (wgt n R)).map iD)] = .ret (.sh (iD (MB n R))) := sum_N
    simp only [runD, seqD, ifD, setD, asgD, parD, par3D, setV, extD, appD, ownAt, vD, vA, oA, kA, fzA, bin, tB, tNot, tAnd, tOr, nA, andA, orA, ifA, chA, a0, aC, b0, bC, cal, calK, isA, is2A, slA, o0, oI, ixL, itS, itZ, itE, itE2, reprL, mulOwn, gN, g0, lamA, xO, sNil, sRet, sEx, sErr, sBk, sCt, sShare, bind_ret, bind_err, slA0, slAp, slAf, slAs, slD0, slDo, slDs, calling, toB, toD, toS, toI, frz, dataA, allS, mkTup, mkLst, itemsL, itemsT, share, share1, tupG, consG, List.append_nil, List.replicate, List.getElem?_cons_zero, List.getElem?_cons_succ, List.cons_append, List.nil_append, Nat.sub_self, List.length_cons, List.length_nil, List.set_cons_zero, List.set_cons_succ, List.foldl_cons, List.foldl_nil, if_true, if_false, ite_true, ite_false, reduceCtorEq, Nat.reduceAdd, Nat.reduceSub, Nat.reduceLeDiff, Bool.not_true, Bool.not_false, Bool.false_eq_true, pick, List.filterMap_cons, List.filterMap_nil, e1, e2]) ?_
  have rm : reprD [.list [iD (MB n R), iD (MB n R)]] = .ret (.sh (.str (PyData.shown (.list [iD (MB n R), iD (MB n R)])))) := repr2 (Rp.nat (MB_le h2)) (Rp.nat (MB_le h2)) (by decide) (by decide)
  refine hs (ρ' := [.pot, .sh (encF n R), .sh (iD n), .sh (.str (PyData.shown (encF n R))), .sh (.list ((LL n).map encT)), .sh (.list ((LL n).map fun l => encT (shr n R l))), .no, .sh (iD (MB n R)), .no, .no, .no, .no, .no, .no, .no, .no, .no, .no, .no, .no, .no, .no]) (if_f (f := sRet (kA (.bool false))) (g := sNil) (by simp only [runD, seqD, ifD, setD, asgD, parD, par3D, setV, extD, appD, ownAt, vD, vA, oA, kA, fzA, bin, tB, tNot, tAnd, tOr, nA, andA, orA, ifA, chA, a0, aC, b0, bC, cal, calK, isA, is2A, slA, o0, oI, ixL, itS, itZ, itE, itE2, reprL, mulOwn, gN, g0, lamA, xO, sNil, sRet, sEx, sErr, sBk, sCt, sShare, bind_ret, bind_err, slA0, slAp, slAf, slAs, slD0, slDo, slDs, calling, toB, toD, toS, toI, frz, dataA, allS, mkTup, mkLst, itemsL, itemsT, share, share1, tupG, consG, List.append_nil, List.replicate, List.getElem?_cons_zero, List.getElem?_cons_succ, List.cons_append, List.nil_append, Nat.sub_self, List.length_cons, List.length_nil, List.set_cons_zero, List.set_cons_succ, List.foldl_cons, List.foldl_nil, if_true, if_false, ite_true, ite_false, reduceCtorEq, Nat.reduceAdd, Nat.reduceSub, Nat.reduceLeDiff, Bool.not_true, Bool.not_false, Bool.false_eq_true, pick, List.filterMap_cons, List.filterMap_nil, e_many_full_blocks h1 h2, z2, rm, ne_S, decide_true])) ?_
  refine hs (ρ' := [.pot, .sh (encF n R), .sh (iD n), .sh (.str (PyData.shown (encF n R))), .sh (.list ((LL n).map encT)), .sh (.list ((LL n).map fun l => encT (shr n R l))), .no, .sh (iD (MB n R)), .no, .own ((CP n R).map encC), .no, .no, .no, .no, .no, .no, .no, .no, .no, .no, .no, .no]) (set_ok r2 (by intro z; cases z)) ?_
  refine hs (ρ' := [.pot, .sh (encF n R), .sh (iD n), .sh (.str (PyData.shown (encF n R))), .sh (.list ((LL n).map encT)), .sh (.list ((LL n).map fun l => encT (shr n R l))), .no, .sh (iD (MB n R)), .no, .sh (.list ((CP n R).map encC)), .sh (.list ((GB n R).map encC)), .no, .no, .no, .no, .no, .no, .no, .no, .no, .no, .no]) (by
    have e1 := r3 (n := n) (R := R)
    simp only [runD, seqD, ifD, setD, asgD, parD, par3D, setV, extD, appD, ownAt, vD, vA, oA, kA, fzA, bin, tB, tNot, tAnd, tOr, nA, andA, orA, ifA, chA, a0, aC, b0, bC, cal, calK, isA, is2A, slA, o0, oI, ixL, itS, itZ, itE, itE2, reprL, mulOwn, gN, g0, lamA, xO, sNil, sRet, sEx, sErr, sBk, sCt, sShare, bind_ret, bind_err, slA0, slAp, slAf, slAs, slD0, slDo, slDs, calling, toB, toD, toS, toI, frz, dataA, allS, mkTup, mkLst, itemsL, itemsT, share, share1, tupG, consG, List.append_nil, List.replicate, List.getElem?_cons_zero, List.getElem?_cons_succ, List.cons_append, List.nil_append, Nat.sub_self, List.length_cons, List.length_nil, List.set_cons_zero, List.set_cons_succ, List.foldl_cons, List.foldl_nil, if_true, if_false, ite_true, ite_false, reduceCtorEq, Nat.reduceAdd, Nat.reduceSub, Nat.reduceLeDiff, Bool.not_true, Bool.not_false, Bool.false_eq_true, pick, List.filterMap_cons, List.filterMap_nil, e1]) ?_
  refine hs (ρ' := [.pot, .sh (encF n R), .sh (iD n), .sh (.str (PyData.shown (encF n R))), .sh (.list ((LL n).map encT)), .sh (.list ((LL n).map fun l => encT (shr n R l))), .no, .sh (iD (MB n R)), .no, .sh (.list ((CP n R).map encC)), .sh (.list ((GB n R).map encC)), .own ((GB n R).map encC), .own ((CP n R).map encC), .no, .no, .no, .no, .no, .no, .no, .no, .no]) (by
    simp only [runD, seqD, ifD, setD, asgD, parD, par3D, setV, extD, appD, ownAt, vD, vA, oA, kA, fzA, bin, tB, tNot, tAnd, tOr, nA, andA, orA, ifA, chA, a0, aC, b0, bC, cal, calK, isA, is2A, slA, o0, oI, ixL, itS, itZ, itE, itE2, reprL, mulOwn, gN, g0, lamA, xO, sNil, sRet, sEx, sErr, sBk, sCt, sShare, bind_ret, bind_err, slA0, slAp, slAf, slAs, slD0, slDo, slDs, calling, toB, toD, toS, toI, frz, dataA, allS, mkTup, mkLst, itemsL, itemsT, share, share1, tupG, consG, List.append_nil, List.replicate, List.getElem?_cons_zero, List.getElem?_cons_succ, List.cons_append, List.nil_append, Nat.sub_self, List.length_cons, List.length_nil, List.set_cons_zero, List.set_cons_succ, List.foldl_cons, List.foldl_nil, if_true, if_false, ite_true, ite_false, reduceCtorEq, Nat.reduceAdd, Nat.reduceSub, Nat.reduceLeDiff, Bool.not_true, Bool.not_false, Bool.false_eq_true, pick, List.filterMap_cons, List.filterMap_nil, e_closed_couples h1 h2, e_greatest_blocks h1 h2]) ?_
  refine hs (ρ' := [.pot, .sh (encF n R), .sh (iD n), .sh (.str (PyData.shown (encF n R))), .sh (.list ((LL n).map encT)), .sh (.list ((LL n).map fun l => encT (shr n R l))), .no, .sh (iD (MB n R)), .no, .sh (.list ((CP n R).map encC)), .sh (.list ((GB n R).map encC)), .own ((GB n R).map encC), .own ((CP n R).map encC), .no, .no, .no, .no, .no, .no, .no, .no, .no]) (if_f (f := sRet (kA (.bool false))) (g := sNil) (by simp only [runD, seqD, ifD, setD, asgD, parD, par3D, setV, extD, appD, ownAt, vD, vA, oA, kA, fzA, bin, tB, tNot, tAnd, tOr, nA, andA, orA, ifA, chA, a0, aC, b0, bC, cal, calK, isA, is2A, slA, o0, oI, ixL, itS, itZ, itE, itE2, reprL, mulOwn, gN, g0, lamA, xO, sNil, sRet, sEx, sErr, sBk, sCt, sShare, bind_ret, bind_err, slA0, slAp, slAf, slAs, slD0, slDo, slDs, calling, toB, toD, toS, toI, frz, dataA, allS, mkTup, mkLst, itemsL, itemsT, share, share1, tupG, consG, List.append_nil, List.replicate, List.getElem?_cons_zero, List.getElem?_cons_succ, List.cons_append, List.nil_append, Nat.sub_self, List.length_cons, List.length_nil, List.set_cons_zero, List.set_cons_succ, List.foldl_cons, List.foldl_nil, if_true, if_false, ite_true, ite_false, reduceCtorEq, Nat.reduceAdd, Nat.reduceSub, Nat.reduceLeDiff, Bool.not_true, Bool.not_false, Bool.false_eq_true, pick, List.filterMap_cons, List.filterMap_nil, e_closed_couples h1 h2, e_greatest_blocks h1 h2, z4, rep4 h2, ne_S, decide_true])) ?_
  have c1 : ((CP n R).map encC).length < 1000000 := by
    rw [List.length_map]
    have := CP_64 (R := R) h2
    omega
  have c2 : ((GB n R).map encC).length < 1000000 := by
    rw [List.length_map]
    have := GB_64 (R := R) h2
    omega
  refine hs (ρ' := [.pot, .sh (encF n R), .sh (iD n), .sh (.str (PyData.shown (encF n R))), .sh (.list ((LL n).map encT)), .sh (.list ((LL n).map fun l => encT (shr n R l))), .no, .sh (iD (MB n R)), .no, .sh (.list ((CP n R).map encC)), .sh (.list ((GB n R).map encC)), .own ((GB n R).map encC), .own ((CP n R).map encC ++ [.none]), .no, .no, .no, .no, .no, .no, .no, .no, .no]) (by simp only [runD, seqD, ifD, setD, asgD, parD, par3D, setV, extD, appD, ownAt, vD, vA, oA, kA, fzA, bin, tB, tNot, tAnd, tOr, nA, andA, orA, ifA, chA, a0, aC, b0, bC, cal, calK, isA, is2A, slA, o0, oI, ixL, itS, itZ, itE, itE2, reprL, mulOwn, gN, g0, lamA, xO, sNil, sRet, sEx, sErr, sBk, sCt, sShare, bind_ret, bind_err, slA0, slAp, slAf, slAs, slD0, slDo, slDs, calling, toB, toD, toS, toI, frz, dataA, allS, mkTup, mkLst, itemsL, itemsT, share, share1, tupG, consG, List.append_nil, List.replicate, List.getElem?_cons_zero, List.getElem?_cons_succ, List.cons_append, List.nil_append, Nat.sub_self, List.length_cons, List.length_nil, List.set_cons_zero, List.set_cons_succ, List.foldl_cons, List.foldl_nil, if_true, if_false, ite_true, ite_false, reduceCtorEq, Nat.reduceAdd, Nat.reduceSub, Nat.reduceLeDiff, Bool.not_true, Bool.not_false, Bool.false_eq_true, pick, List.filterMap_cons, List.filterMap_nil, c1]) ?_
  refine hs (ρ' := [.pot, .sh (encF n R), .sh (iD n), .sh (.str (PyData.shown (encF n R))), .sh (.list ((LL n).map encT)), .sh (.list ((LL n).map fun l => encT (shr n R l))), .no, .sh (iD (MB n R)), .no, .sh (.list ((CP n R).map encC)), .sh (.list ((GB n R).map encC)), .own ((GB n R).map encC ++ [.none]), .own ((CP n R).map encC ++ [.none]), .no, .no, .no, .no, .no, .no, .no, .no, .no]) (by simp only [runD, seqD, ifD, setD, asgD, parD, par3D, setV, extD, appD, ownAt, vD, vA, oA, kA, fzA, bin, tB, tNot, tAnd, tOr, nA, andA, orA, ifA, chA, a0, aC, b0, bC, cal, calK, isA, is2A, slA, o0, oI, ixL, itS, itZ, itE, itE2, reprL, mulOwn, gN, g0, lamA, xO, sNil, sRet, sEx, sErr, sBk, sCt, sShare, bind_ret, bind_err, slA0, slAp, slAf, slAs, slD0, slDo, slDs, calling, toB, toD, toS, toI, frz, dataA, allS, mkTup, mkLst, itemsL, itemsT, share, share1, tupG, consG, List.append_nil, List.replicate, List.getElem?_cons_zero, List.getElem?_cons_succ, List.cons_append, List.nil_append, Nat.sub_self, List.length_cons, List.length_nil, List.set_cons_zero, List.set_cons_succ, List.foldl_cons, List.foldl_nil, if_true, if_false, ite_true, ite_false, reduceCtorEq, Nat.reduceAdd, Nat.reduceSub, Nat.reduceLeDiff, Bool.not_true, Bool.not_false, Bool.false_eq_true, pick, List.filterMap_cons, List.filterMap_nil, c2]) ?_
  generalize AV.own ((GB n R).map encC ++ [.none]) = x11
  generalize AV.own ((CP n R).map encC ++ [.none]) = x12
  obtain ⟨x6, x13, x15, hx, e⟩ : ∃ x6 x13 x15, (∀ ds, x6 ≠ .own ds) ∧ ifD (tB (bin ltD (vD 2) (oA (kA (.int 5))))) (seqD (setD 13 (cal mkLst (a0))) (seqD (forD (itS (slA (vD 4) (oI (oA (kA (.int 1)))) (o0))) (gN 6) (lb__law_relation_right_0)) (seqD (ifD (tB (bin neA (oA (cal lenD (bC (vD 13) (b0)))) (vD 7))) (sRet (kA (.bool false))) (sNil)) (seqD (sShare [13] (setD 15 (c__law_relation_right_8))) (sShare [13] (ifD (tOr (tB (bin neA (vD 15) (vD 10))) (tB (bin neA (oA (c__law_relation_right_9)) (vD 10)))) (sRet (kA (.bool false))) (sNil))))))) (sNil) [.pot, .sh (encF n R), .sh (iD n), .sh (.str (PyData.shown (encF n R))), .sh (.list ((LL n).map encT)), .sh (.list ((LL n).map fun l => encT (shr n R l))), .no, .sh (iD (MB n R)), .no, .sh (.list ((CP n R).map encC)), .sh (.list ((GB n R).map encC)), x11, x12, .no, .no, .no, .no, .no, .no, .no, .no, .no] = .ret (.nx [.pot, .sh (encF n R), .sh (iD n), .sh (.str (PyData.shown (encF n R))), .sh (.list ((LL n).map encT)), .sh (.list ((LL n).map fun l => encT (shr n R l))), x6, .sh (iD (MB n R)), .no, .sh (.list ((CP n R).map encC)), .sh (.list ((GB n R).map encC)), x11, x12, x13, .no, x15, .no, .no, .no, .no, .no, .no]) := by
    by_cases h5 : n < 5
    · obtain ⟨x6, x13, x15, hx, e⟩ := small (R := R) (x11 := x11) (x12 := x12) h1 h2
      refine ⟨x6, x13, x15, hx, (if_t ?_).trans e⟩
      have e3 : ltD (iD n) (.int 5) = yes := by rw [show ltD (iD n) (.int 5) = .ret (.sh (.bool (decide ((n : Int) < 5)))) from rfl, decide_eq_true (by omega)]
      simp only [runD, seqD, ifD, setD, asgD, parD, par3D, setV, extD, appD, ownAt, vD, vA, oA, kA, fzA, bin, tB, tNot, tAnd, tOr, nA, andA, orA, ifA, chA, a0, aC, b0, bC, cal, calK, isA, is2A, slA, o0, oI, ixL, itS, itZ, itE, itE2, reprL, mulOwn, gN, g0, lamA, xO, sNil, sRet, sEx, sErr, sBk, sCt, sShare, bind_ret, bind_err, slA0, slAp, slAf, slAs, slD0, slDo, slDs, calling, toB, toD, toS, toI, frz, dataA, allS, mkTup, mkLst, itemsL, itemsT, share, share1, tupG, consG, List.append_nil, List.replicate, List.getElem?_cons_zero, List.getElem?_cons_succ, List.cons_append, List.nil_append, Nat.sub_self, List.length_cons, List.length_nil, List.set_cons_zero, List.set_cons_succ, List.foldl_cons, List.foldl_nil, if_true, if_false, ite_true, ite_false, reduceCtorEq, Nat.reduceAdd, Nat.reduceSub, Nat.reduceLeDiff, Bool.not_true, Bool.not_false, Bool.false_eq_true, pick, List.filterMap_cons, List.filterMap_nil, e3]
    · refine ⟨.no, .no, .no, fun _ => not_no, if_f (g := sNil) ?_⟩
      have e3 : ltD (iD n) (.int 5) = .ret (.sh (.bool false)) := by rw [show ltD (iD n) (.int 5) = .ret (.sh (.bool (decide ((n : Int) < 5)))) from rfl, decide_eq_false (by omega)]
      simp only [runD, seqD, ifD, setD, asgD, parD, par3D, setV, extD, appD, ownAt, vD, vA, oA, kA, fzA, bin, tB, tNot, tAnd, tOr, nA, andA, orA, ifA, chA, a0, aC, b0, bC, cal, calK, isA, is2A, slA, o0, oI, ixL, itS, itZ, itE, itE2, reprL, mulOwn, gN, g0, lamA, xO, sNil, sRet, sEx, sErr, sBk, sCt, sShare, bind_ret, bind_err, slA0, slAp, slAf, slAs, slD0, slDo, slDs, calling, toB, toD, toS, toI, frz, dataA, allS, mkTup, mkLst, itemsL, itemsT, share, share1, tupG, consG, List.append_nil, List.replicate, List.getElem?_cons_zero, List.getElem?_cons_succ, List.cons_append, List.nil_append, Nat.sub_self, List.length_cons, List.length_nil, List.set_cons_zero, List.set_cons_succ, List.foldl_cons, List.foldl_nil, if_true, if_false, ite_true, ite_false, reduceCtorEq, Nat.reduceAdd, Nat.reduceSub, Nat.reduceLeDiff, Bool.not_true, Bool.not_false, Bool.false_eq_true, pick, List.filterMap_cons, List.filterMap_nil, e3]
  refine hs e ?_
  clear e
  refine hs (ρ' := [.pot, .sh (encF n R), .sh (iD n), .sh (.str (PyData.shown (encF n R))), .sh (.list ((LL n).map encT)), .sh (.list ((LL n).map fun l => encT (shr n R l))), x6, .sh (iD (MB n R)), .no, .sh (.list ((CP n R).map encC)), .sh (.list ((GB n R).map encC)), x11, x12, x13, .no, x15, .no, .no, .no, .sh (iD (WD n R)), .no, .no]) (by
    have e1 := r10 (R := R) (x11 := x11) (x12 := x12) (x13 := x13) (x15 := x15) h2 hx
    obtain ⟨w, e3, ew⟩ := max_N 0 ((GB n R).map fun p => p.1.length * p.2.length)
    have hlen := GB_64 (R := R) h2
    have e2 : addD (.list [.int 0]) (.list (((GB n R).map fun p => p.1.length * p.2.length).map iD)) = .ret (.own (iD 0 :: ((GB n R).map fun p => p.1.length * p.2.length).map iD)) := add_LL (p := [iD 0]) (by simp; omega)
    have z1 : (1 : Nat) ≤ 4000 := by omega
    have e4 : w = WD n R := ew
    simp only [runD, seqD, ifD, setD, asgD, parD, par3D, setV, extD, appD, ownAt, vD, vA, oA, kA, fzA, bin, tB, tNot, tAnd, tOr, nA, andA, orA, ifA, chA, a0, aC, b0, bC, cal, calK, isA, is2A, slA, o0, oI, ixL, itS, itZ, itE, itE2, reprL, mulOwn, gN, g0, lamA, xO, sNil, sRet, sEx, sErr, sBk, sCt, sShare, bind_ret, bind_err, slA0, slAp, slAf, slAs, slD0, slDo, slDs, calling, toB, toD, toS, toI, frz, dataA, allS, mkTup, mkLst, itemsL, itemsT, share, share1, tupG, consG, List.append_nil, List.replicate, List.getElem?_cons_zero, List.getElem?_cons_succ, List.cons_append, List.nil_append, Nat.sub_self, List.length_cons, List.length_nil, List.set_cons_zero, List.set_cons_succ, List.foldl_cons, List.foldl_nil, if_true, if_false, ite_true, ite_false, reduceCtorEq, Nat.reduceAdd, Nat.reduceSub, Nat.reduceLeDiff, Bool.not_true, Bool.not_false, Bool.false_eq_true, pick, List.filterMap_cons, List.filterMap_nil, z1, e1, e2, e3, e4]) ?_
  refine hs (ρ' := [.pot, .sh (encF n R), .sh (iD n), .sh (.str (PyData.shown (encF n R))), .sh (.list ((LL n).map encT)), .sh (.list ((LL n).map fun l => encT (shr n R l))), x6, .sh (iD (MB n R)), .no, .sh (.list ((CP n R).map encC)), .sh (.list ((GB n R).map encC)), x11, x12, x13, .no, x15, .no, .no, .no, .sh (iD (WD n R)), .own ((BS n R).map encC), .no]) (set_ok (r11 h2 hx) (by intro z; cases z)) ?_
  refine hs (ρ' := [.pot, .sh (encF n R), .sh (iD n), .sh (.str (PyData.shown (encF n R))), .sh (.list ((LL n).map encT)), .sh (.list ((LL n).map fun l => encT (shr n R l))), x6, .sh (iD (MB n R)), .no, .sh (.list ((CP n R).map encC)), .sh (.list ((GB n R).map encC)), x11, x12, x13, .no, x15, .no, .no, .no, .sh (iD (WD n R)), .sh (bestP n R), .no]) s20 ?_
  have rb : reprD [.list [bestP n R, bestP n R]] = .ret (.sh (.str (PyData.shown (.list [bestP n R, bestP n R])))) := repr2 (rp_best h2) (rp_best h2) (by decide) (by decide)
  refine hs (ρ' := [.pot, .sh (encF n R), .sh (iD n), .sh (.str (PyData.shown (encF n R))), .sh (.list ((LL n).map encT)), .sh (.list ((LL n).map fun l => encT (shr n R l))), x6, .sh (iD (MB n R)), .no, .sh (.list ((CP n R).map encC)), .sh (.list ((GB n R).map encC)), x11, x12, x13, .no, x15, .no, .no, .no, .sh (iD (WD n R)), .sh (bestP n R), .no]) (if_f (f := sRet (kA (.bool false))) (g := sNil) (by simp only [runD, seqD, ifD, setD, asgD, parD, par3D, setV, extD, appD, ownAt, vD, vA, oA, kA, fzA, bin, tB, tNot, tAnd, tOr, nA, andA, orA, ifA, chA, a0, aC, b0, bC, cal, calK, isA, is2A, slA, o0, oI, ixL, itS, itZ, itE, itE2, reprL, mulOwn, gN, g0, lamA, xO, sNil, sRet, sEx, sErr, sBk, sCt, sShare, bind_ret, bind_err, slA0, slAp, slAf, slAs, slD0, slDo, slDs, calling, toB, toD, toS, toI, frz, dataA, allS, mkTup, mkLst, itemsL, itemsT, share, share1, tupG, consG, List.append_nil, List.replicate, List.getElem?_cons_zero, List.getElem?_cons_succ, List.cons_append, List.nil_append, Nat.sub_self, List.length_cons, List.length_nil, List.set_cons_zero, List.set_cons_succ, List.foldl_cons, List.foldl_nil, if_true, if_false, ite_true, ite_false, reduceCtorEq, Nat.reduceAdd, Nat.reduceSub, Nat.reduceLeDiff, Bool.not_true, Bool.not_false, Bool.false_eq_true, pick, List.filterMap_cons, List.filterMap_nil, e_widest_block h1 h2, z2, rb, ne_S, decide_true])) ?_
  refine hs (ρ' := [.pot, .sh (encF n R), .sh (iD n), .sh (.str (PyData.shown (encF n R))), .sh (.list ((LL n).map encT)), .sh (.list ((LL n).map fun l => encT (shr n R l))), x6, .sh (iD (MB n R)), .no, .sh (.list ((CP n R).map encC)), .sh (.list ((GB n R).map encC)), x11, x12, x13, .no, x15, .no, .no, .no, .sh (iD (WD n R)), .sh (bestP n R), .no]) (if_f (f := sRet (kA (.bool false))) (g := sNil) (by
    have e1 := r13 (R := R) (x11 := x11) (x12 := x12) (x13 := x13) (x15 := x15) h2 hx
    simp only [runD, seqD, ifD, setD, asgD, parD, par3D, setV, extD, appD, ownAt, vD, vA, oA, kA, fzA, bin, tB, tNot, tAnd, tOr, nA, andA, orA, ifA, chA, a0, aC, b0, bC, cal, calK, isA, is2A, slA, o0, oI, ixL, itS, itZ, itE, itE2, reprL, mulOwn, gN, g0, lamA, xO, sNil, sRet, sEx, sErr, sBk, sCt, sShare, bind_ret, bind_err, slA0, slAp, slAf, slAs, slD0, slDo, slDs, calling, toB, toD, toS, toI, frz, dataA, allS, mkTup, mkLst, itemsL, itemsT, share, share1, tupG, consG, List.append_nil, List.replicate, List.getElem?_cons_zero, List.getElem?_cons_succ, List.cons_append, List.nil_append, Nat.sub_self, List.length_cons, List.length_nil, List.set_cons_zero, List.set_cons_succ, List.foldl_cons, List.foldl_nil, if_true, if_false, ite_true, ite_false, reduceCtorEq, Nat.reduceAdd, Nat.reduceSub, Nat.reduceLeDiff, Bool.not_true, Bool.not_false, Bool.false_eq_true, pick, List.filterMap_cons, List.filterMap_nil, e1, all_map, all_in])) ?_
  refine hs (ρ' := [.pot, .sh (encF n R), .sh (iD n), .sh (.str (PyData.shown (encF n R))), .sh (.list ((LL n).map encT)), .sh (.list ((LL n).map fun l => encT (shr n R l))), x6, .sh (iD (MB n R)), .no, .sh (.list ((CP n R).map encC)), .sh (.list ((GB n R).map encC)), x11, x12, x13, .no, x15, .no, .no, .no, .sh (iD (WD n R)), .sh (bestP n R), .sh (encF n (tr R))]) (by simp only [runD, seqD, ifD, setD, asgD, parD, par3D, setV, extD, appD, ownAt, vD, vA, oA, kA, fzA, bin, tB, tNot, tAnd, tOr, nA, andA, orA, ifA, chA, a0, aC, b0, bC, cal, calK, isA, is2A, slA, o0, oI, ixL, itS, itZ, itE, itE2, reprL, mulOwn, gN, g0, lamA, xO, sNil, sRet, sEx, sErr, sBk, sCt, sShare, bind_ret, bind_err, slA0, slAp, slAf, slAs, slD0, slDo, slDs, calling, toB, toD, toS, toI, frz, dataA, allS, mkTup, mkLst, itemsL, itemsT, share, share1, tupG, consG, List.append_nil, List.replicate, List.getElem?_cons_zero, List.getElem?_cons_succ, List.cons_append, List.nil_append, Nat.sub_self, List.length_cons, List.length_nil, List.set_cons_zero, List.set_cons_succ, List.foldl_cons, List.foldl_nil, if_true, if_false, ite_true, ite_false, reduceCtorEq, Nat.reduceAdd, Nat.reduceSub, Nat.reduceLeDiff, Bool.not_true, Bool.not_false, Bool.false_eq_true, pick, List.filterMap_cons, List.filterMap_nil, e_turned h1 h2]) ?_
  refine hs (ρ' := [.pot, .sh (encF n R), .sh (iD n), .sh (.str (PyData.shown (encF n R))), .sh (.list ((LL n).map encT)), .sh (.list ((LL n).map fun l => encT (shr n R l))), x6, .sh (iD (MB n R)), .no, .sh (.list ((CP n R).map encC)), .sh (.list ((GB n R).map encC)), x11, x12, x13, .no, x15, .no, .no, .no, .sh (iD (WD n R)), .sh (bestP n R), .sh (encF n (tr R))]) (if_f (f := sRet (kA (.bool false))) (g := sNil) (by
    have e1 := r14 (R := R) (x11 := x11) (x12 := x12) (x13 := x13) (x15 := x15) h1 h2 hx
    have e2 : neA (iD (MB n R)) (iD (MB n R)) = .ret (.sh (.bool false)) := by rw [ne_len, decide_eq_true rfl]; rfl
    simp only [runD, seqD, ifD, setD, asgD, parD, par3D, setV, extD, appD, ownAt, vD, vA, oA, kA, fzA, bin, tB, tNot, tAnd, tOr, nA, andA, orA, ifA, chA, a0, aC, b0, bC, cal, calK, isA, is2A, slA, o0, oI, ixL, itS, itZ, itE, itE2, reprL, mulOwn, gN, g0, lamA, xO, sNil, sRet, sEx, sErr, sBk, sCt, sShare, bind_ret, bind_err, slA0, slAp, slAf, slAs, slD0, slDo, slDs, calling, toB, toD, toS, toI, frz, dataA, allS, mkTup, mkLst, itemsL, itemsT, share, share1, tupG, consG, List.append_nil, List.replicate, List.getElem?_cons_zero, List.getElem?_cons_succ, List.cons_append, List.nil_append, Nat.sub_self, List.length_cons, List.length_nil, List.set_cons_zero, List.set_cons_succ, List.foldl_cons, List.foldl_nil, if_true, if_false, ite_true, ite_false, reduceCtorEq, Nat.reduceAdd, Nat.reduceSub, Nat.reduceLeDiff, Bool.not_true, Bool.not_false, Bool.false_eq_true, pick, List.filterMap_cons, List.filterMap_nil, e__law_turned n1, ne_FF rfl h2, e1, sort14, ne_LL, e_many_full_blocks h1 h2, MB_tr, e2])) ?_
  refine hret ?_
  have rc := repr_ls (xs := (CP n R).map encC) (k := 100) (m := 2) (fun x hx => by
    obtain ⟨p, hp, rfl⟩ := List.mem_map.mp hx
    obtain ⟨a, b, _⟩ := mem_CP.mp hp
    exact rp_C h2 a b) (by decide) (by decide) (by rw [List.length_map]; have := CP_64 (R := R) h2; omega)
  refine hand (e__law_lots_right h1 h2) ?_
  refine hold_of (a := .sh (.bool true)) ?_ ⟨_, rfl, rfl⟩
  simp only [runD, seqD, ifD, setD, asgD, parD, par3D, setV, extD, appD, ownAt, vD, vA, oA, kA, fzA, bin, tB, tNot, tAnd, tOr, nA, andA, orA, ifA, chA, a0, aC, b0, bC, cal, calK, isA, is2A, slA, o0, oI, ixL, itS, itZ, itE, itE2, reprL, mulOwn, gN, g0, lamA, xO, sNil, sRet, sEx, sErr, sBk, sCt, sShare, bind_ret, bind_err, slA0, slAp, slAf, slAs, slD0, slDo, slDs, calling, toB, toD, toS, toI, frz, dataA, allS, mkTup, mkLst, itemsL, itemsT, share, share1, tupG, consG, List.append_nil, List.replicate, List.getElem?_cons_zero, List.getElem?_cons_succ, List.cons_append, List.nil_append, Nat.sub_self, List.length_cons, List.length_nil, List.set_cons_zero, List.set_cons_succ, List.foldl_cons, List.foldl_nil, if_true, if_false, ite_true, ite_false, reduceCtorEq, Nat.reduceAdd, Nat.reduceSub, Nat.reduceLeDiff, Bool.not_true, Bool.not_false, Bool.false_eq_true, pick, List.filterMap_cons, List.filterMap_nil, repr_F R h2, e_closed_couples h1 h2, rc, eq_S, decide_true]
end
end Mf
end
section
set_option Elab.async false
set_option linter.all false
set_option autoImplicit false
set_option maxRecDepth 100000
set_option maxHeartbeats 1600000
/-! E6: what a _law_pot does, its numbers put in; two shapes. Of no one law. -/
namespace Mf
open PySem Dn
open Classical

/-- numbers of the last statement -/
def TailOk (M A B C : Int) : Prop := M ≠ 0 ∧ (-(2 ^ 64) < A ∧ A < 2 ^ 64) ∧ (-(2 ^ 64) < B ∧ B < 2 ^ 64)
noncomputable def potTail0 (M A B C : Int) : Dn.Env → T Out := sRet (cal mkLst (aC (cal max2D (bC (oA (kA (.int 0))) (bC (oA (bin subD (vD 2) (oA (bin powD (oA (kA (.int 10))) (oA (kA (.int 18))))))) (b0)))) (aC (bin addD (oA (bin modD (oA (cal intOfD (bC (oA (bin addD (oA (bin addD (oA (bin mulX (oA (bin modD (oA (cal intOfD (bC (vD 2) (b0)))) (oA (kA (.int M))))) (oA (kA (.int A))))) (oA (bin mulX (oA (kA (.int B))) (vD 1))))) (oA (kA (.int C))))) (b0)))) (oA (kA (.int 2147483563))))) (oA (kA (.int 1)))) (a0))))
noncomputable def potTail (M A B C : Int) : Dn.Env → T Out := shut (potTail0 M A B C)
theorem potTail_eq (M A B C : Int) : potTail M A B C = potTail0 M A B C := shut_eq _
theorem pot_tail {M A B C : Int} (h : TailOk M A B C) {ns : PyData} {k : Nat} {c : Int} (h0 : 0 ≤ c) (hb : c.toNat < BIG) :
    Hold (potTail M A B C [.sh ns, .sh (iD k), .sh (.int c)]) fun o => ∃ av, o = .rt av ∧ Hold (potOf av) fun r => r = .pot := by
  obtain ⟨hM, hA, hB⟩ := h
  have e1 : powD (.int 10) (.int 18) = .ret (.sh (.int (10 ^ 18))) := by
    show (if 0 ≤ (18 : Int) ∧ (18 : Int) ≤ 1000000 ∧ (10 : Int).natAbs < 2 ^ 64 then T.ret (AV.sh (.int (10 ^ (18 : Int).toNat))) else .err) = _
    rw [if_pos ⟨by omega, by omega, by decide⟩]
    rfl
  have e2 : ∀ i j : Int, subD (.int i) (.int j) = .ret (.sh (.int (i - j))) := fun _ _ => rfl
  have e3 : ∀ i j : Int, max2D [.int i, .int j] = .ret (.sh (.int (if j > i then j else i))) := fun _ _ => rfl
  have e4 := mod_I (i := c) hM
  have e5 : ∀ i : Int, mulX (.int i) (.int A) = .ret (.sh (.int (i * A))) := fun i => mul_int (.inr hA)
  have e6 : mulX (.int B) (iD k) = .ret (.sh (.int (B * (k : Int)))) := mul_int (.inl hB)
  have e7 := fun i : Int => mod_I (i := i) (j := 2147483563) (by omega)
  have z : (2 : Nat) ≤ 4000 := by omega
  rw [potTail_eq]
  unfold potTail0
  simp only [runD, seqD, ifD, setD, asgD, parD, par3D, setV, extD, appD, ownAt, vD, vA, oA, kA, fzA, bin, tB, tNot, tAnd, tOr, nA, andA, orA, ifA, chA, a0, aC, b0, bC, cal, calK, isA, is2A, slA, o0, oI, ixL, itS, itZ, itE, itE2, reprL, mulOwn, gN, g0, lamA, xO, sNil, sRet, sEx, sErr, sBk, sCt, sShare, bind_ret, bind_err, slA0, slAp, slAf, slAs, slD0, slDo, slDs, calling, toB, toD, toS, toI, frz, dataA, allS, mkTup, mkLst, itemsL, itemsT, share, share1, tupG, consG, List.append_nil, List.replicate, List.getElem?_cons_zero, List.getElem?_cons_succ, List.cons_append, List.nil_append, Nat.sub_self, List.length_cons, List.length_nil, List.set_cons_zero, List.set_cons_succ, List.foldl_cons, List.foldl_nil, if_true, if_false, ite_true, ite_false, reduceCtorEq, Nat.reduceAdd, Nat.reduceSub, Nat.reduceLeDiff, Bool.not_true, Bool.not_false, Bool.false_eq_true, pick, List.filterMap_cons, List.filterMap_nil, e1, e2, e3, e4, e5, e6, e7, intOf_int, add_int, z]
  refine ⟨_, rfl, ?_⟩
  obtain ⟨a, b⟩ := fm (c.fmod M * A + B * (k : Int) + C) 2147483563 (by omega)
  generalize (c.fmod M * A + B * (k : Int) + C).fmod 2147483563 = y at a b ⊢
  have hx : 0 ≤ (if c - 10 ^ 18 > 0 then c - 10 ^ 18 else 0) ∧ (if c - 10 ^ 18 > 0 then c - 10 ^ 18 else 0).toNat < BIG := by
    have hB := BIG_pos
    by_cases h : c - 10 ^ 18 > 0
    · rw [if_pos h]
      exact ⟨by omega, by omega⟩
    · rw [if_neg h]
      exact ⟨by omega, hB⟩
  show Hold (if _ then T.ret AV.pot else .err) _
  rw [if_pos ⟨hx.1, hx.2, by omega, by rw [LIM_eq]; omega⟩]
  rfl
/-- the cell: by a number set, then perhaps the script's -/
noncomputable def cellA (D E : Int) (rest : Dn.Env → T Out) : Dn.Env → T Out := seqD (setD 2 (fzA (bin addD (oA (bin mulX (oA (kA (.int D))) (vD 1))) (oA (kA (.int E)))))) (seqD (ifD (tB (bin ltD (vD 1) (oA (cal lenD (bC (vD 0) (b0)))))) (setD 2 (fzA (cal absD (bC (oA (bin ixD (vD 0) (vD 1))) (b0))))) (sNil)) rest)
/-- the cell: by one choice -/
noncomputable def cellB (D E : Int) (rest : Dn.Env → T Out) : Dn.Env → T Out := seqD (setD 2 (fzA (ifA (tB (bin ltD (vD 1) (oA (cal lenD (bC (vD 0) (b0)))))) (cal absD (bC (oA (bin ixD (vD 0) (vD 1))) (b0))) (bin addD (oA (bin mulX (oA (kA (.int D))) (vD 1))) (oA (kA (.int E))))))) rest
def CellOk (D E : Int) : Prop := (0 ≤ D ∧ D < 10000) ∧ (0 ≤ E ∧ E < 10000)
section
variable {D E : Int} {rest : Dn.Env → T Out} {ns : List Int} {k : Nat} {p : Out → Prop}
theorem script_at (h : k < ns.length) (hb : ∀ z ∈ ns, Builtin.Int.intBits z ≤ 1048576) : ∃ c : Int, 0 ≤ c ∧ c.toNat < BIG ∧ ixD (.list (ns.map PyData.int)) (iD k) = .ret (.sh (.int ns[k])) ∧ absD [.int ns[k]] = .ret (.sh (.int c)) := by
  obtain ⟨a, b⟩ := abs_big (hb ns[k] (List.getElem_mem h))
  exact ⟨_, a, b, ix_list (by rw [List.getElem?_map, List.getElem?_eq_getElem h]; rfl), abs_int⟩
theorem cell0 (h : CellOk D E) (hk : k ≤ 63) : 0 ≤ D * (k : Int) + E ∧ (D * (k : Int) + E).toNat < BIG ∧ mulX (.int D) (iD k) = .ret (.sh (.int (D * (k : Int)))) := by
  obtain ⟨⟨h1, h2⟩, h3, h4⟩ := h
  have a : 0 ≤ D * (k : Int) := Int.mul_nonneg h1 (by omega)
  have b : D * (k : Int) ≤ 10000 * 63 := Int.mul_le_mul (by omega) (by omega) (by omega) (by omega)
  refine ⟨by omega, small_big (by omega), mul_int (.inl ⟨by omega, by omega⟩)⟩
theorem lt_len : ltD (iD k) (.int (ns.length : Nat)) = .ret (.sh (.bool (decide (k < ns.length)))) := by
  rw [lt_int]
  congr 3
  exact decide_eq_decide.mpr (by omega)
theorem cellA_hold (h : CellOk D E) (hk : k ≤ 63) (hb : ∀ z ∈ ns, Builtin.Int.intBits z ≤ 1048576) (hr : ∀ c : Int, 0 ≤ c → c.toNat < BIG → Hold (rest [.sh (.list (ns.map PyData.int)), .sh (iD k), .sh (.int c)]) p) :
    Hold (cellA D E rest [.sh (.list (ns.map PyData.int)), .sh (iD k), .no]) p := by
  obtain ⟨a, b, e3⟩ := cell0 h hk
  unfold cellA
  refine hs (ρ' := [.sh (.list (ns.map PyData.int)), .sh (iD k), .sh (.int (D * (k : Int) + E))]) (by simp only [runD, seqD, ifD, setD, asgD, parD, par3D, setV, extD, appD, ownAt, vD, vA, oA, kA, fzA, bin, tB, tNot, tAnd, tOr, nA, andA, orA, ifA, chA, a0, aC, b0, bC, cal, calK, isA, is2A, slA, o0, oI, ixL, itS, itZ, itE, itE2, reprL, mulOwn, gN, g0, lamA, xO, sNil, sRet, sEx, sErr, sBk, sCt, sShare, bind_ret, bind_err, slA0, slAp, slAf, slAs, slD0, slDo, slDs, calling, toB, toD, toS, toI, frz, dataA, allS, mkTup, mkLst, itemsL, itemsT, share, share1, tupG, consG, List.append_nil, List.replicate, List.getElem?_cons_zero, List.getElem?_cons_succ, List.cons_append, List.nil_append, Nat.sub_self, List.length_cons, List.length_nil, List.set_cons_zero, List.set_cons_succ, List.foldl_cons, List.foldl_nil, if_true, if_false, ite_true, ite_false, reduceCtorEq, Nat.reduceAdd, Nat.reduceSub, Nat.reduceLeDiff, Bool.not_true, Bool.not_false, Bool.false_eq_true, pick, List.filterMap_cons, List.filterMap_nil, e3, add_int]) ?_
  by_cases hl : k < ns.length
  · obtain ⟨c, c0, c1, e1, e2⟩ := script_at hl hb
    refine hs (ρ' := [.sh (.list (ns.map PyData.int)), .sh (iD k), .sh (.int c)]) (by simp only [runD, seqD, ifD, setD, asgD, parD, par3D, setV, extD, appD, ownAt, vD, vA, oA, kA, fzA, bin, tB, tNot, tAnd, tOr, nA, andA, orA, ifA, chA, a0, aC, b0, bC, cal, calK, isA, is2A, slA, o0, oI, ixL, itS, itZ, itE, itE2, reprL, mulOwn, gN, g0, lamA, xO, sNil, sRet, sEx, sErr, sBk, sCt, sShare, bind_ret, bind_err, slA0, slAp, slAf, slAs, slD0, slDo, slDs, calling, toB, toD, toS, toI, frz, dataA, allS, mkTup, mkLst, itemsL, itemsT, share, share1, tupG, consG, List.append_nil, List.replicate, List.getElem?_cons_zero, List.getElem?_cons_succ, List.cons_append, List.nil_append, Nat.sub_self, List.length_cons, List.length_nil, List.set_cons_zero, List.set_cons_succ, List.foldl_cons, List.foldl_nil, if_true, if_false, ite_true, ite_false, reduceCtorEq, Nat.reduceAdd, Nat.reduceSub, Nat.reduceLeDiff, Bool.not_true, Bool.not_false, Bool.false_eq_true, pick, List.filterMap_cons, List.filterMap_nil, len_ints, lt_len, decide_eq_true hl, e1, e2]) ?_
    exact hr c c0 c1
  · refine hs (ρ' := [.sh (.list (ns.map PyData.int)), .sh (iD k), .sh (.int (D * (k : Int) + E))]) (by simp only [runD, seqD, ifD, setD, asgD, parD, par3D, setV, extD, appD, ownAt, vD, vA, oA, kA, fzA, bin, tB, tNot, tAnd, tOr, nA, andA, orA, ifA, chA, a0, aC, b0, bC, cal, calK, isA, is2A, slA, o0, oI, ixL, itS, itZ, itE, itE2, reprL, mulOwn, gN, g0, lamA, xO, sNil, sRet, sEx, sErr, sBk, sCt, sShare, bind_ret, bind_err, slA0, slAp, slAf, slAs, slD0, slDo, slDs, calling, toB, toD, toS, toI, frz, dataA, allS, mkTup, mkLst, itemsL, itemsT, share, share1, tupG, consG, List.append_nil, List.replicate, List.getElem?_cons_zero, List.getElem?_cons_succ, List.cons_append, List.nil_append, Nat.sub_self, List.length_cons, List.length_nil, List.set_cons_zero, List.set_cons_succ, List.foldl_cons, List.foldl_nil, if_true, if_false, ite_true, ite_false, reduceCtorEq, Nat.reduceAdd, Nat.reduceSub, Nat.reduceLeDiff, Bool.not_true, Bool.not_false, Bool.false_eq_true, pick, List.filterMap_cons, List.filterMap_nil, len_ints, lt_len, decide_eq_false hl]) ?_
    exact hr _ a b
theorem cellB_hold (h : CellOk D E) (hk : k ≤ 63) (hb : ∀ z ∈ ns, Builtin.Int.intBits z ≤ 1048576) (hr : ∀ c : Int, 0 ≤ c → c.toNat < BIG → Hold (rest [.sh (.list (ns.map PyData.int)), .sh (iD k), .sh (.int c)]) p) :
    Hold (cellB D E rest [.sh (.list (ns.map PyData.int)), .sh (iD k), .no]) p := by
  obtain ⟨a, b, e3⟩ := cell0 h hk
  unfold cellB
  by_cases hl : k < ns.length
  · obtain ⟨c, c0, c1, e1, e2⟩ := script_at hl hb
    refine hs (ρ' := [.sh (.list (ns.map PyData.int)), .sh (iD k), .sh (.int c)]) (by simp only [runD, seqD, ifD, setD, asgD, parD, par3D, setV, extD, appD, ownAt, vD, vA, oA, kA, fzA, bin, tB, tNot, tAnd, tOr, nA, andA, orA, ifA, chA, a0, aC, b0, bC, cal, calK, isA, is2A, slA, o0, oI, ixL, itS, itZ, itE, itE2, reprL, mulOwn, gN, g0, lamA, xO, sNil, sRet, sEx, sErr, sBk, sCt, sShare, bind_ret, bind_err, slA0, slAp, slAf, slAs, slD0, slDo, slDs, calling, toB, toD, toS, toI, frz, dataA, allS, mkTup, mkLst, itemsL, itemsT, share, share1, tupG, consG, List.append_nil, List.replicate, List.getElem?_cons_zero, List.getElem?_cons_succ, List.cons_append, List.nil_append, Nat.sub_self, List.length_cons, List.length_nil, List.set_cons_zero, List.set_cons_succ, List.foldl_cons, List.foldl_nil, if_true, if_false, ite_true, ite_false, reduceCtorEq, Nat.reduceAdd, Nat.reduceSub, Nat.reduceLeDiff, Bool.not_true, Bool.not_false, Bool.false_eq_true, pick, List.filterMap_cons, List.filterMap_nil, len_ints, lt_len, decide_eq_true hl, e1, e2]) ?_
    exact hr c c0 c1
  · refine hs (ρ' := [.sh (.list (ns.map PyData.int)), .sh (iD k), .sh (.int (D * (k : Int) + E))]) (by simp only [runD, seqD, ifD, setD, asgD, parD, par3D, setV, extD, appD, ownAt, vD, vA, oA, kA, fzA, bin, tB, tNot, tAnd, tOr, nA, andA, orA, ifA, chA, a0, aC, b0, bC, cal, calK, isA, is2A, slA, o0, oI, ixL, itS, itZ, itE, itE2, reprL, mulOwn, gN, g0, lamA, xO, sNil, sRet, sEx, sErr, sBk, sCt, sShare, bind_ret, bind_err, slA0, slAp, slAf, slAs, slD0, slDo, slDs, calling, toB, toD, toS, toI, frz, dataA, allS, mkTup, mkLst, itemsL, itemsT, share, share1, tupG, consG, List.append_nil, List.replicate, List.getElem?_cons_zero, List.getElem?_cons_succ, List.cons_append, List.nil_append, Nat.sub_self, List.length_cons, List.length_nil, List.set_cons_zero, List.set_cons_succ, List.foldl_cons, List.foldl_nil, if_true, if_false, ite_true, ite_false, reduceCtorEq, Nat.reduceAdd, Nat.reduceSub, Nat.reduceLeDiff, Bool.not_true, Bool.not_false, Bool.false_eq_true, pick, List.filterMap_cons, List.filterMap_nil, len_ints, lt_len, decide_eq_false hl, e3, add_int]) ?_
    exact hr _ a b
end
/-- the turns of a law:  range(max(1, min(K, len(script)))) -/
theorem turns {ns : List Int} {K : Nat} (h1 : 1 ≤ K) (h2 : K ≤ 63) (x y : AV) : ∃ m : Nat, m ≤ K ∧ itR (oA (cal max2D (bC (oA (kA (.int 1))) (bC (oA (cal min2D (bC (oA (kA (.int (K : Int)))) (bC (oA (cal lenD (bC (vD 0) (b0)))) (b0))))) (b0))))) [.sh (.list (ns.map PyData.int)), x, y] = .ret ((List.range m).map iD) := by
  have e1 : min2D [.int (K : Int), .int (ns.length : Nat)] = .ret (.sh (.int (if (ns.length : Int) < (K : Int) then (ns.length : Int) else (K : Int)))) := rfl
  have e2 : ∀ i : Int, max2D [.int 1, .int i] = .ret (.sh (.int (if i > 1 then i else 1))) := fun _ => rfl
  have e3 : ∃ m : Nat, m ≤ K ∧ (if (if (ns.length : Int) < (K : Int) then (ns.length : Int) else (K : Int)) > 1 then (if (ns.length : Int) < (K : Int) then (ns.length : Int) else (K : Int)) else (1 : Int)) = (m : Int) := by
    by_cases h : (ns.length : Int) < (K : Int)
    · rw [if_pos h]
      by_cases h3 : (ns.length : Int) > 1
      · rw [if_pos h3]
        exact ⟨ns.length, by omega, rfl⟩
      · rw [if_neg h3]
        exact ⟨1, h1, rfl⟩
    · rw [if_neg h]
      by_cases h3 : (K : Int) > 1
      · rw [if_pos h3]
        exact ⟨K, by omega, rfl⟩
      · rw [if_neg h3]
        exact ⟨1, h1, rfl⟩
  obtain ⟨m, hm, e3⟩ := e3
  refine ⟨m, hm, itR_n ?_ (by omega)⟩
  simp only [runD, seqD, ifD, setD, asgD, parD, par3D, setV, extD, appD, ownAt, vD, vA, oA, kA, fzA, bin, tB, tNot, tAnd, tOr, nA, andA, orA, ifA, chA, a0, aC, b0, bC, cal, calK, isA, is2A, slA, o0, oI, ixL, itS, itZ, itE, itE2, reprL, mulOwn, gN, g0, lamA, xO, sNil, sRet, sEx, sErr, sBk, sCt, sShare, bind_ret, bind_err, slA0, slAp, slAf, slAs, slD0, slDo, slDs, calling, toB, toD, toS, toI, frz, dataA, allS, mkTup, mkLst, itemsL, itemsT, share, share1, tupG, consG, List.append_nil, List.replicate, List.getElem?_cons_zero, List.getElem?_cons_succ, List.cons_append, List.nil_append, Nat.sub_self, List.length_cons, List.length_nil, List.set_cons_zero, List.set_cons_succ, List.foldl_cons, List.foldl_nil, if_true, if_false, ite_true, ite_false, reduceCtorEq, Nat.reduceAdd, Nat.reduceSub, Nat.reduceLeDiff, Bool.not_true, Bool.not_false, Bool.false_eq_true, pick, List.filterMap_cons, List.filterMap_nil, len_ints, e1, e2, e3]
end Mf
end
section
set_option Elab.async false
set_option linter.all false
set_option autoImplicit false
set_option maxRecDepth 100000
/-! F3: _law_pot, of every law (the numbers are read off). -/
namespace Mf
open PySem Dn Wk
open Classical

instance (M A B C : Int) : Decidable (TailOk M A B C) := inferInstanceAs (Decidable (_ ∧ (_ ∧ _) ∧ (_ ∧ _)))
instance (D E : Int) : Decidable (CellOk D E) := inferInstanceAs (Decidable ((_ ∧ _) ∧ (_ ∧ _)))
theorem pot_body : (∃ D E M A B C : Int, b__law_pot = cellA D E (potTail0 M A B C) ∧ CellOk D E ∧ TailOk M A B C) ∨ ∃ D E M A B C : Int, b__law_pot = cellB D E (potTail0 M A B C) ∧ CellOk D E ∧ TailOk M A B C := by
  first
  | exact .inl ⟨_, _, _, _, _, _, rfl, by decide, by decide⟩
  | exact .inr ⟨_, _, _, _, _, _, rfl, by decide, by decide⟩
theorem e__law_pot {ns : List Int} {k : Nat} (hk : k ≤ 63) (hb : ∀ z ∈ ns, Builtin.Int.intBits z ≤ 1048576) : Hold (d__law_pot [.sh (.list (ns.map PyData.int)), .sh (iD k)]) fun av => av = .pot := by
  have q : Hold (b__law_pot [.sh (.list (ns.map PyData.int)), .sh (iD k), .no]) fun o => ∃ av, o = .rt av ∧ Hold (potOf av) fun r => r = .pot := by
    rcases pot_body with ⟨D, E, M, A, B, C, e, h1, h2⟩ | ⟨D, E, M, A, B, C, e, h1, h2⟩
    · rw [e, ← potTail_eq]
      exact cellA_hold h1 hk hb fun c c0 c1 => pot_tail h2 c0 c1
    · rw [e, ← potTail_eq]
      exact cellB_hold h1 hk hb fun c c0 c1 => pot_tail h2 c0 c1
  rw [q__law_pot]
  refine Hold.bind' ?_
  rw [q__law_pot0]
  exact hrun q
end Mf
end
section
set_option Elab.async false
set_option linter.all false
set_option autoImplicit false
set_option maxRecDepth 100000
/-! E7: steps of a walk for what is drawn. Of no one law. -/
namespace Mf
open PySem Dn
open Classical

section
variable {ρ : Dn.Env} {e e1 e2 : Dn.Env → T AV} {d1 d2 : Dn.Env → T PyData} {as : Dn.Env → T (List AV)} {p : AV → Prop} {q : List AV → Prop}
theorem hcal {g : List AV → T AV} (h : Hold (as ρ) fun l => Hold (g l) p) : Hold (cal g as ρ) p := Hold.bind' h
theorem haC (h : Hold (e ρ) fun a => Hold (as ρ) fun l => q (frz a :: l)) : Hold (aC e as ρ) q := Hold.bind' (h.mono fun _ h => Hold.bind' h)
theorem ha0 (h : q []) : Hold (a0 ρ) q := h
theorem hbin {op : PyData → PyData → T AV} (h : Hold (d1 ρ) fun x => Hold (d2 ρ) fun y => Hold (op x y) p) : Hold (bin op d1 d2 ρ) p := Hold.bind' (h.mono fun _ h => Hold.bind' h)
theorem hoA {r : PyData → Prop} (h : Hold (e ρ) fun a => Hold (toD a) r) : Hold (oA e ρ) r := Hold.bind' h
theorem hor {c d : Dn.Env → T AV} {f : Dn.Env → T Out} {p : Out → Prop} (h1 : Hold (c ρ) fun av => av = .sh (.bool true)) (h2 : Hold (d ρ) fun av => av = .sh (.bool true)) (hp : p (.nx ρ)) : Hold (ifD (tOr (tNot (tB c)) (tNot (tB d))) f sNil ρ) p := by
  have k1 : ∀ {e : Dn.Env → T AV}, (Hold (e ρ) fun av => av = .sh (.bool true)) → Hold (tNot (tB e) ρ) fun b => b = false := fun {e} h => Hold.bind' (Hold.bind' (h.mono fun av ea => by subst ea; rfl))
  unfold ifD
  refine Hold.bind' (Hold.bind' ((k1 h1).mono fun b eb => ?_))
  subst eb
  refine (k1 h2).mono fun b eb => ?_
  subst eb
  exact hp
end
end Mf
end
section
set_option Elab.async false
set_option linter.all false
set_option autoImplicit false
set_option maxRecDepth 100000
set_option maxHeartbeats 1600000
/-! K10 (k71): the law. -/
namespace Mf
open PySem Dn Wk
open Classical

section
variable {x0 x1 : AV}
noncomputable def RT (i : Int) : Dn.Env → T AV := cal (calling 2 d__law_relation_right) (aC (vA 2) (aC (cal (calling 2 d__law_relation) (aC (vA 2) (aC (bin addD (oA (kA (.int 1))) (oA (cal (calling 2 d__law_draw) (aC (vA 2) (aC (kA (.int i)) (a0)))))) (a0)))) (a0)))
theorem rt_ok {k : Nat} (h1 : 1 ≤ k) (h2 : k ≤ 6) : Hold (RT (k : Int) [x0, x1, .pot]) fun av => av = .sh (.bool true) := by
  have e1 : ∀ d : Nat, addD (.int 1) (iD d) = .ret (.sh (iD (1 + d))) := fun d => int_iD 1 d
  unfold RT
  refine hcal (haC (hold_of (a := .pot) rfl (haC (hcal (haC (hold_of (a := .pot) rfl (haC (hbin (hold_of (a := .int 1) rfl (hoA (hcal (haC (hold_of (a := .pot) rfl (haC (hold_of (a := .sh (.int (k : Int))) rfl (ha0 ?_))))))))))))))))
  show Hold (d__law_draw [.pot, .sh (iD k)]) _
  refine draw_hold h1 (by omega) fun d hd => ?_
  refine hold_of (a := iD d) rfl (hold_of (e1 d) (ha0 ?_))
  show Hold (d__law_relation [.pot, .sh (iD (1 + d))]) _
  refine (e__law_relation (by omega) (by omega)).mono fun av ⟨R, e⟩ => ?_
  subst e
  refine ha0 ?_
  show Hold (d__law_relation_right [.pot, .sh (encF (1 + d) R)]) _
  exact e__law_relation_right (by omega) (by omega)
end
theorem e_law {ns : List Int} (hb : ∀ z ∈ ns, Builtin.Int.intBits z ≤ 1048576) : Hold (d_law [.sh (.list (ns.map PyData.int))]) fun av => av = .sh (.bool true) := by
  obtain ⟨m, hm, e⟩ := turns (ns := ns) (K := 2) (by decide) (by decide) .no .no
  rw [q_law]
  refine hrun ?_
  unfold b_law
  refine hseq ?_
  unfold forD
  refine Hold.bind' ?_
  refine hold_of e ?_
  refine (forH (g := gN 1) (body := lb_law_0) (fun ρ => ∃ x1 x2, ρ = [.sh (.list (ns.map PyData.int)), x1, x2]) _ _ ⟨_, _, rfl⟩ fun ρ ⟨x1, x2, er⟩ d hd => ?_).mono fun o ⟨ρ', eo, x1, x2, er⟩ => ⟨ρ', eo, _, rfl, rfl⟩
  subst er
  obtain ⟨k, hk, rfl⟩ := List.mem_map.mp hd
  have hk := List.mem_range.mp hk
  show Hold (lb_law_0 [.sh (.list (ns.map PyData.int)), .sh (iD k), x2]) _
  unfold lb_law_0
  refine hseq (hset (hfz ?_))
  show Hold (d__law_pot [.sh (.list (ns.map PyData.int)), .sh (iD k)]) _
  refine (e__law_pot (by omega) hb).mono fun av ea => ?_
  subst ea
  refine ⟨(by intro z; cases z), [.sh (.list (ns.map PyData.int)), .sh (iD k), .pot], rfl, ?_⟩
  exact hor (rt_ok (k := 6) (by decide) (by decide)) (rt_ok (k := 4) (by decide) (by decide)) ⟨_, .inl rfl, _, _, rfl⟩
end Mf
end
section
set_option Elab.async false
set_option linter.all false
set_option maxRecDepth 100000
set_option maxHeartbeats 0
namespace LawTrue
open PySem Dn
theorem law_true : ∀ ns : List Int, ns.length ≤ 63 → (∀ z ∈ ns, Builtin.Int.intBits z ≤ 1048576) → Hold (Wk.d_law [.sh (.list (ns.map PyData.int))]) fun av => av = .sh (.bool true) :=
  fun ns _ hb => Mf.e_law hb
end LawTrue
namespace Fin
open PySem PySem.Spec PyProof.Rows L2 LamX Dn
theorem facts {w : World} {h : Heap} {K : PySem.W.Frag} {mg : Str → Option Value} (KX : K.In h) (G : h.Ns mainGlobals mg) (c : He.SaysX LawHd.fa LawHd.fn [] LawHd.tf LawHd.ex w h K) : Wk.Facts K mg where
  f_is_integer := c.t.d.def_ 0 (d := LawHd.d_is_integer) rfl
  g_is_integer := He.glo_ok KX G (c.t.d.fact 0 (f := .glo "is_integer") rfl)
  f_is_within := c.t.d.def_ 1 (d := LawHd.d_is_within) rfl
  g_is_within := He.glo_ok KX G (c.t.d.fact 1 (f := .glo "is_within") rfl)
  f_is_tuple := c.t.d.def_ 2 (d := LawHd.d_is_tuple) rfl
  g_is_tuple := He.glo_ok KX G (c.t.d.fact 2 (f := .glo "is_tuple") rfl)
  f_are_rising := c.t.d.def_ 3 (d := LawHd.d_are_rising) rfl
  g_are_rising := He.glo_ok KX G (c.t.d.fact 3 (f := .glo "are_rising") rfl)
  f_is_lot_of := c.t.d.def_ 4 (d := LawHd.d_is_lot_of) rfl
  g_is_lot_of := He.glo_ok KX G (c.t.d.fact 4 (f := .glo "is_lot_of") rfl)
  f_is_relation_of := c.t.d.def_ 5 (d := LawHd.d_is_relation_of) rfl
  g_is_relation_of := He.glo_ok KX G (c.t.d.fact 5 (f := .glo "is_relation_of") rfl)
  f_is_relation_value := c.t.d.def_ 6 (d := LawHd.d_is_relation_value) rfl
  g_is_relation_value := He.glo_ok KX G (c.t.d.fact 6 (f := .glo "is_relation_value") rfl)
  f_want_relation := c.t.d.def_ 7 (d := LawHd.d_want_relation) rfl
  g_want_relation := He.glo_ok KX G (c.t.d.fact 7 (f := .glo "want_relation") rfl)
  f_want_lot := c.t.d.def_ 8 (d := LawHd.d_want_lot) rfl
  g_want_lot := He.glo_ok KX G (c.t.d.fact 8 (f := .glo "want_lot") rfl)
  f_by_rule := c.t.d.def_ 9 (d := LawHd.d_by_rule) rfl
  g_by_rule := He.glo_ok KX G (c.t.d.fact 9 (f := .glo "by_rule") rfl)
  f_turned_of := c.t.d.def_ 10 (d := LawHd.d_turned_of) rfl
  g_turned_of := He.glo_ok KX G (c.t.d.fact 10 (f := .glo "turned_of") rfl)
  f_lot_of_all := c.t.d.def_ 11 (d := LawHd.d_lot_of_all) rfl
  g_lot_of_all := He.glo_ok KX G (c.t.d.fact 11 (f := .glo "lot_of_all") rfl)
  f_turned := c.t.d.def_ 12 (d := LawHd.d_turned) rfl
  g_turned := He.glo_ok KX G (c.t.d.fact 12 (f := .glo "turned") rfl)
  f_are_two_lots := c.t.d.def_ 13 (d := LawHd.d_are_two_lots) rfl
  g_are_two_lots := He.glo_ok KX G (c.t.d.fact 13 (f := .glo "are_two_lots") rfl)
  f_is_block_value := c.t.d.def_ 14 (d := LawHd.d_is_block_value) rfl
  g_is_block_value := He.glo_ok KX G (c.t.d.fact 14 (f := .glo "is_block_value") rfl)
  f_shared_by := c.t.d.def_ 18 (d := LawHd.d_shared_by) rfl
  g_shared_by := He.glo_ok KX G (c.t.d.fact 18 (f := .glo "shared_by") rfl)
  f_standing_to := c.t.d.def_ 19 (d := LawHd.d_standing_to) rfl
  g_standing_to := He.glo_ok KX G (c.t.d.fact 19 (f := .glo "standing_to") rfl)
  f_is_couple_value := c.t.d.def_ 15 (d := LawHd.d_is_couple_value) rfl
  g_is_couple_value := He.glo_ok KX G (c.t.d.fact 15 (f := .glo "is_couple_value") rfl)
  f_want_couple := c.t.d.def_ 16 (d := LawHd.d_want_couple) rfl
  g_want_couple := He.glo_ok KX G (c.t.d.fact 16 (f := .glo "want_couple") rfl)
  f_lots_of := c.t.d.def_ 17 (d := LawHd.d_lots_of) rfl
  g_lots_of := He.glo_ok KX G (c.t.d.fact 17 (f := .glo "lots_of") rfl)
  f_couple_from := c.t.d.def_ 20 (d := LawHd.d_couple_from) rfl
  g_couple_from := He.glo_ok KX G (c.t.d.fact 20 (f := .glo "couple_from") rfl)
  f_couple_to := c.t.d.def_ 21 (d := LawHd.d_couple_to) rfl
  g_couple_to := He.glo_ok KX G (c.t.d.fact 21 (f := .glo "couple_to") rfl)
  f_all_couples := c.t.d.def_ 22 (d := LawHd.d_all_couples) rfl
  g_all_couples := He.glo_ok KX G (c.t.d.fact 22 (f := .glo "all_couples") rfl)
  f_all_greatest := c.t.d.def_ 23 (d := LawHd.d_all_greatest) rfl
  g_all_greatest := He.glo_ok KX G (c.t.d.fact 23 (f := .glo "all_greatest") rfl)
  f_is_greatest_block := c.t.d.def_ 24 (d := LawHd.d_is_greatest_block) rfl
  g_is_greatest_block := He.glo_ok KX G (c.t.d.fact 24 (f := .glo "is_greatest_block") rfl)
  f_is_closed_couple := c.t.d.def_ 25 (d := LawHd.d_is_closed_couple) rfl
  g_is_closed_couple := He.glo_ok KX G (c.t.d.fact 25 (f := .glo "is_closed_couple") rfl)
  f_many_full_blocks := c.t.d.def_ 26 (d := LawHd.d_many_full_blocks) rfl
  g_many_full_blocks := He.glo_ok KX G (c.t.d.fact 26 (f := .glo "many_full_blocks") rfl)
  f_greatest_blocks := c.t.d.def_ 27 (d := LawHd.d_greatest_blocks) rfl
  g_greatest_blocks := He.glo_ok KX G (c.t.d.fact 27 (f := .glo "greatest_blocks") rfl)
  f_closed_couples := c.t.d.def_ 28 (d := LawHd.d_closed_couples) rfl
  g_closed_couples := He.glo_ok KX G (c.t.d.fact 28 (f := .glo "closed_couples") rfl)
  f_widest_block := c.t.d.def_ 29 (d := LawHd.d_widest_block) rfl
  g_widest_block := He.glo_ok KX G (c.t.d.fact 29 (f := .glo "widest_block") rfl)
  f_block_from := c.t.d.def_ 30 (d := LawHd.d_block_from) rfl
  g_block_from := He.glo_ok KX G (c.t.d.fact 30 (f := .glo "block_from") rfl)
  f_block_to := c.t.d.def_ 31 (d := LawHd.d_block_to) rfl
  g_block_to := He.glo_ok KX G (c.t.d.fact 31 (f := .glo "block_to") rfl)
  f_couples_met := c.t.d.def_ 32 (d := LawHd.d_couples_met) rfl
  g_couples_met := He.glo_ok KX G (c.t.d.fact 32 (f := .glo "couples_met") rfl)
  f_couples_joined := c.t.d.def_ 33 (d := LawHd.d_couples_joined) rfl
  g_couples_joined := He.glo_ok KX G (c.t.d.fact 33 (f := .glo "couples_joined") rfl)
  f__law_pot := c.t.d.def_ 34 (d := LawHd.d__law_pot) rfl
  g__law_pot := He.glo_ok KX G (c.t.d.fact 34 (f := .glo "_law_pot") rfl)
  f__law_draw := c.t.d.def_ 35 (d := LawHd.d__law_draw) rfl
  g__law_draw := He.glo_ok KX G (c.t.d.fact 35 (f := .glo "_law_draw") rfl)
  f__law_pick := c.t.d.def_ 36 (d := LawHd.d__law_pick) rfl
  g__law_pick := He.glo_ok KX G (c.t.d.fact 36 (f := .glo "_law_pick") rfl)
  f__law_relation := c.t.d.def_ 37 (d := LawHd.d__law_relation) rfl
  g__law_relation := He.glo_ok KX G (c.t.d.fact 37 (f := .glo "_law_relation") rfl)
  f__law_pairs := c.t.d.def_ 38 (d := LawHd.d__law_pairs) rfl
  g__law_pairs := He.glo_ok KX G (c.t.d.fact 38 (f := .glo "_law_pairs") rfl)
  f__law_lots := c.t.d.def_ 39 (d := LawHd.d__law_lots) rfl
  g__law_lots := He.glo_ok KX G (c.t.d.fact 39 (f := .glo "_law_lots") rfl)
  f__law_common := c.t.d.def_ 40 (d := LawHd.d__law_common) rfl
  g__law_common := He.glo_ok KX G (c.t.d.fact 40 (f := .glo "_law_common") rfl)
  f__law_standing := c.t.d.def_ 41 (d := LawHd.d__law_standing) rfl
  g__law_standing := He.glo_ok KX G (c.t.d.fact 41 (f := .glo "_law_standing") rfl)
  f__law_is_whole := c.t.d.def_ 42 (d := LawHd.d__law_is_whole) rfl
  g__law_is_whole := He.glo_ok KX G (c.t.d.fact 42 (f := .glo "_law_is_whole") rfl)
  f__law_is_lot := c.t.d.def_ 43 (d := LawHd.d__law_is_lot) rfl
  g__law_is_lot := He.glo_ok KX G (c.t.d.fact 43 (f := .glo "_law_is_lot") rfl)
  f__law_are_lots := c.t.d.def_ 44 (d := LawHd.d__law_are_lots) rfl
  g__law_are_lots := He.glo_ok KX G (c.t.d.fact 44 (f := .glo "_law_are_lots") rfl)
  f__law_is_block := c.t.d.def_ 45 (d := LawHd.d__law_is_block) rfl
  g__law_is_block := He.glo_ok KX G (c.t.d.fact 45 (f := .glo "_law_is_block") rfl)
  f__law_turned := c.t.d.def_ 46 (d := LawHd.d__law_turned) rfl
  g__law_turned := He.glo_ok KX G (c.t.d.fact 46 (f := .glo "_law_turned") rfl)
  f__law_lots_right := c.t.d.def_ 48 (d := LawHd.d__law_lots_right) rfl
  g__law_lots_right := He.glo_ok KX G (c.t.d.fact 48 (f := .glo "_law_lots_right") rfl)
  f__law_relation_right := c.t.d.def_ 47 (d := LawHd.d__law_relation_right) rfl
  g__law_relation_right := He.glo_ok KX G (c.t.d.fact 47 (f := .glo "_law_relation_right") rfl)
  f_law := c.t.d.def_ 49 (d := LawHd.d_law) rfl
  g_law := He.glo_ok KX G (c.t.d.fact 49 (f := .glo "law") rfl)
  b_isinstance := He.free_ok KX G (c.t.d.fact 50 (f := .free "isinstance") rfl)
  b_int := He.free_ok KX G (c.t.d.fact 51 (f := .free "int") rfl)
  b_bool := He.free_ok KX G (c.t.d.fact 52 (f := .free "bool") rfl)
  b_tuple := He.free_ok KX G (c.t.d.fact 53 (f := .free "tuple") rfl)
  b_len := He.free_ok KX G (c.t.d.fact 54 (f := .free "len") rfl)
  b_all := He.free_ok KX G (c.t.d.fact 55 (f := .free "all") rfl)
  b_zip := He.free_ok KX G (c.t.d.fact 56 (f := .free "zip") rfl)
  b_range := He.free_ok KX G (c.t.d.fact 57 (f := .free "range") rfl)
  b_enumerate := He.free_ok KX G (c.t.d.fact 58 (f := .free "enumerate") rfl)
  b_sorted := He.free_ok KX G (c.t.d.fact 59 (f := .free "sorted") rfl)
  b_set := He.free_ok KX G (c.t.d.fact 60 (f := .free "set") rfl)
  b_max := He.free_ok KX G (c.t.d.fact 61 (f := .free "max") rfl)
  b_abs := He.free_ok KX G (c.t.d.fact 62 (f := .free "abs") rfl)
  b_divmod := He.free_ok KX G (c.t.d.fact 63 (f := .free "divmod") rfl)
  b_sum := He.free_ok KX G (c.t.d.fact 64 (f := .free "sum") rfl)
  b_repr := He.free_ok KX G (c.t.d.fact 65 (f := .free "repr") rfl)
  b_any := He.free_ok KX G (c.t.d.fact 66 (f := .free "any") rfl)
  b_list := He.free_ok KX G (c.t.d.fact 67 (f := .free "list") rfl)
  b_min := He.free_ok KX G (c.t.d.fact 68 (f := .free "min") rfl)
  c_MOST_THINGS := He.int_ok KX G (c.t.d.fact 69 (f := .int "MOST_THINGS" 6) rfl)
  tabD := by
    have e := of_decide_eq_true c.more
    unfold LawHd.tf at e
    unfold Wk.lamN
    exact e
theorem law_at {P : Program} {w : World} {h : Heap} {mg : Str → Option Value} (G : h.Ns mainGlobals mg) (Y : LawHd.hk.says w h) : ∃ (K : PySem.W.Frag) (cs : List (Addr × Addr)) (Tb : List (Addr × Str)), K.In h ∧
      (∀ p ∈ cs, h.get? p.2 = some { cls := .none, data := .fields #[] }) ∧ (∀ p ∈ cs, K.lookup p.2 = none) ∧ (∀ p ∈ cs, PySem.W.CodeHd h p.1 p.2) ∧ (∀ p ∈ Tb, p.1 ∈ cs.map (·.2)) ∧
      ∀ base : Heap, K.In base → base.Ns mainGlobals mg → (∀ p ∈ cs, TabB base mg p.1 p.2) → FnG P w K mg base Tb (Cal P w K mg base Tb) "law" (LawHd.top 59) ["script"] 29 Wk.d_law := by
  obtain ⟨K, KX, c⟩ := Y
  have etf : LawHd.tf = Wk.lamN.map fun n => (n, none) := rfl
  have mem : ∀ p ∈ LawHd.tf.map (He.cT K), ∃ q ∈ LawHd.tf, p = He.cT K q := fun p hp => by
    obtain ⟨q, hq, e⟩ := List.mem_map.mp hp
    exact ⟨q, hq, e.symm⟩
  refine ⟨K, LawHd.tf.map (He.cT K), Wk.TbL K, KX, fun p hp => ?_, fun p hp => ?_, fun p hp => ?_, fun p hp => ?_, fun base _ _ hT => Wk.g_law (facts KX G c) ⟨fun n hn => hT _ (List.mem_map.mpr ⟨(n, none), ?_, rfl⟩)⟩⟩
  · obtain ⟨q, hq, rfl⟩ := mem p hp
    exact c.empty q hq
  · obtain ⟨q, hq, rfl⟩ := mem p hp
    exact c.out q hq
  · obtain ⟨q, hq, rfl⟩ := mem p hp
    exact PySem.W.codeHd_of_K KX (c.hd q hq)
  · obtain ⟨n, hn, rfl⟩ := List.mem_map.mp hp
    exact List.mem_map.mpr ⟨He.cT K (n, none), List.mem_map.mpr ⟨(n, none), by rw [etf]; exact List.mem_map.mpr ⟨n, hn, rfl⟩, rfl⟩, rfl⟩
  · rw [etf]
    exact List.mem_map.mpr ⟨n, hn, rfl⟩
end Fin
open PySem PySem.W PySem.Calls PyProof.Rows
theorem law_holds : PySem.Challenge.rw_pairsled_k71_whole_full_blocks_and_close.Holds := by
  w_on; o_law
  refine HandSHeadRun.head_any (r := OpenLaw.row PySem.Challenge.rw_pairsled_k71_whole_full_blocks_and_close) (q := view (OpenLaw.row PySem.Challenge.rw_pairsled_k71_whole_full_blocks_and_close).prog [59]) (H := LawHd.hk) (ob := LawHd.ob) (M := 4000) (loose := LawHd.loose) (d := HandSHeadRun.topDef (OpenLaw.row PySem.Challenge.rw_pairsled_k71_whole_full_blocks_and_close).prog 59) (kwd := []) LawHd.ob_eq
    (by kernel_rfl) (fun s => by kernel_rfl) LawHd.run (by kernel_rfl) (by kernel_rfl) (by kernel_rfl) (by rfl) (by first | assumption | decide +kernel) (by decide +kernel) ⟨rfl, rfl, rfl, rfl, rfl, by decide +kernel⟩ ?hw ?hc
  case hw => w_witness2
  case hc =>
    exact Dn.walk_G (l := PySem.Challenge.rw_pairsled_k71_whole_full_blocks_and_close) (n := 63) (k := 29) (st := LawHd.top 59) (x := "law") (arg := "script") (d := Wk.d_law) (by kernel_rfl) rfl (by decide) (by kernel_rfl) ⟨rfl, by decide, by decide⟩
      (fun w mg fa h Y G _ => Fin.law_at G Y) LawTrue.law_true
end
theorem PySem.Challenge.cw_pairsled_k71_whole_full_blocks_and_close_holds : PySem.Challenge.rw_pairsled_k71_whole_full_blocks_and_close.Holds :=
  law_holds
