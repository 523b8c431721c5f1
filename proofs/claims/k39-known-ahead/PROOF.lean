import PyProof.Rows.All
import Wide.All
import OpenK.AllK
import Wide.FinOn
import HandS.ForMost
import HandS.Style
import HandS.TupAny
import HandS.TupMul
import HandS.Conv
import HandS.IsInst
import HandS.Walk
import HandS.DictComp
import KE.GoesEnum
import KE.KDictKeyed
import KE.SortData
import HandS.SortKw
import KE.KMinKey
import PySem.Challenge.RW_tidewaits_k39_whole_what_is_known_ahead
import HandS.HeadEnd
import HandS.HeadHook2
import HandS.HeadNt
import HandS.Head2
set_option Elab.async false
set_option linter.all false
set_option maxRecDepth 100000
set_option maxHeartbeats 4000000
/-! Part 0: ghost heaps, data in heaps, slots, the two judgements. -/
namespace TW
open PySem PySem.Spec PyProof.Rows L2

/-! ### ghost heaps: G is what is known to stay as it is, H all that is tracked -/
structure Gr (G H G' H' : Hp) : Prop where
  same : Same H H'
  up : Same G G'
  sub : Same G' H'
  new : ∀ b, G b = none → G' b ≠ none → H b = none
section
variable {G H G1 H1 G2 H2 : Hp} {p : Addr} {o : HO}
theorem Gr.refl (h : Same G H) : Gr G H G H := ⟨Same.refl _, Same.refl _, h, fun b e n => absurd e n⟩
theorem Gr.trans (a : Gr G H G1 H1) (b : Gr G1 H1 G2 H2) : Gr G H G2 H2 :=
  ⟨a.same.trans b.same, a.up.trans b.up, b.sub, fun c e n => by
    by_cases h : G1 c = none
    · exact a.same.free (b.new c h n)
    · exact a.new c e h⟩
theorem same_laid (h : H p = none) : Same H (upd H p o) := fun b u e => by rw [upd_ne (ne_of_none e h)]; exact e
theorem Gr.lay (s : Same G H) (h : H p = none) : Gr G H (upd G p o) (upd H p o) := by
  refine ⟨same_laid h, same_laid (s.free h), fun b u e => ?_, fun b e n => ?_⟩
  · by_cases hb : b = p
    · subst hb; rw [upd_same] at e ⊢; exact e
    · rw [upd_ne hb] at e ⊢; exact s b u e
  · by_cases hb : b = p
    · subst hb; exact h
    · rw [upd_ne hb] at n; exact absurd e n
theorem Gr.own (s : Same G H) (h : H p = none) : Gr G H G (upd H p o) := ⟨same_laid h, Same.refl _, s.trans (same_laid h), fun b e n => absurd e n⟩
end

end TW
namespace L2
open PySem PySem.Spec PyProof.Rows
/-! ### data in a heap: lists are tracked as they are, tuples may be the module's own -/
mutual
inductive Dt (K : PySem.W.Frag) (G : Hp) : V → PyData → Prop
  | non : Dt K G .non .none
  | bl (b : Bool) : Dt K G (.bl b) (.bool b)
  | int (i : Int) : Dt K G (.int i) (.int i)
  | str (x : Str) : Dt K G (.str x) (.str x)
  | lst {a : Addr} {xs : List V} {ds : List PyData} (h : G a = some (.lst xs)) (t : DtAll K G xs ds) : Dt K G (.ref a) (.list ds)
  | tup {a : Addr} {xs : List V} {ds : List PyData} (h : SqT K G a xs) (t : DtAll K G xs ds) : Dt K G (.ref a) (.tuple ds)
inductive DtAll (K : PySem.W.Frag) (G : Hp) : List V → List PyData → Prop
  | nil : DtAll K G [] []
  | cons {v : V} {vs : List V} {d : PyData} {ds : List PyData} (h : Dt K G v d) (t : DtAll K G vs ds) : DtAll K G (v :: vs) (d :: ds)
end
mutual
theorem dt_dp {K : PySem.W.Frag} {G H : Hp} (e : Same G H) : ∀ (d : PyData) (v : V), Dt K G v d → Dp K H v d
  | .none, _, h => by cases h; exact .non
  | .bool _, _, h => by cases h; exact .bl _
  | .int _, _, h => by cases h; exact .int _
  | .str _, _, h => by cases h; exact .str _
  | .list ds, _, h => by
    cases h with
    | lst h1 h2 => exact .lst (SqL.of (e _ _ h1)) (dtAll_dp e ds _ h2)
  | .tuple ds, _, h => by
    cases h with
    | tup h1 h2 =>
      refine .tup ?_ (dtAll_dp e ds _ h2)
      rcases h1 with (q | ⟨o, q⟩) | q
      · exact .inl (.inl (e _ _ q))
      · exact .inl (.inr ⟨o, e _ _ q⟩)
      · exact .inr q
  | .dict _, _, h => nomatch h
theorem dtAll_dp {K : PySem.W.Frag} {G H : Hp} (e : Same G H) : ∀ (ds : List PyData) (vs : List V), DtAll K G vs ds → DpAll K H vs ds
  | [], _, h => by cases h; exact .nil
  | d :: ds, _, h => by
    cases h with
    | cons h1 h2 => exact .cons (dt_dp e d _ h1) (dtAll_dp e ds _ h2)
end
theorem rd_up {G G' : Hp} (e : Same G G') {a : Addr} {u : HO} (h : Rd G a u) : Rd G' a u := by
  rcases h with h | ⟨o, h⟩
  · exact .inl (e _ _ h)
  · exact .inr ⟨o, e _ _ h⟩
theorem sql_up {K : PySem.W.Frag} {G G' : Hp} (e : Same G G') {a : Addr} {xs : List V} (h : SqL K G a xs) : SqL K G' a xs := h.imp (rd_up e) id
theorem sqt_up {K : PySem.W.Frag} {G G' : Hp} (e : Same G G') {a : Addr} {xs : List V} (h : SqT K G a xs) : SqT K G' a xs := h.imp (rd_up e) id
mutual
theorem dp_up {K : PySem.W.Frag} {G G' : Hp} (e : Same G G') : ∀ (d : PyData) (v : V), Dt K G v d → Dt K G' v d
  | .none, _, h => by cases h; exact .non
  | .bool _, _, h => by cases h; exact .bl _
  | .int _, _, h => by cases h; exact .int _
  | .str _, _, h => by cases h; exact .str _
  | .list ds, _, h => by
    cases h with
    | lst h1 h2 => exact .lst (e _ _ h1) (dpAll_up e ds _ h2)
  | .tuple ds, _, h => by
    cases h with
    | tup h1 h2 => exact .tup (sqt_up e h1) (dpAll_up e ds _ h2)
  | .dict _, _, h => nomatch h
theorem dpAll_up {K : PySem.W.Frag} {G G' : Hp} (e : Same G G') : ∀ (ds : List PyData) (vs : List V), DtAll K G vs ds → DtAll K G' vs ds
  | [], _, h => by cases h; exact .nil
  | d :: ds, _, h => by
    cases h with
    | cons h1 h2 => exact .cons (dp_up e d _ h1) (dpAll_up e ds _ h2)
end
theorem Dt.up {K : PySem.W.Frag} {G G' : Hp} {v : V} {d : PyData} (h : Dt K G v d) (e : Same G G') : Dt K G' v d := dp_up e d v h
theorem DtAll.up {K : PySem.W.Frag} {G G' : Hp} {vs : List V} {ds : List PyData} (h : DtAll K G vs ds) (e : Same G G') : DtAll K G' vs ds := dpAll_up e ds vs h
section
variable {K : PySem.W.Frag} {G : Hp} {v : V} {vs ws : List V} {d : PyData} {ds es : List PyData}
theorem dp_int {i : Int} (h : Dt K G v (.int i)) : v = .int i := by cases h; rfl
theorem dp_bl {b : Bool} (h : Dt K G v (.bool b)) : v = .bl b := by cases h; rfl
theorem dp_non (h : Dt K G v .none) : v = .non := by cases h; rfl
theorem dp_lst (h : Dt K G v (.list ds)) : ∃ a xs, v = .ref a ∧ G a = some (.lst xs) ∧ DtAll K G xs ds := by
  cases h with
  | lst h1 h2 => exact ⟨_, _, rfl, h1, h2⟩
theorem dp_tup (h : Dt K G v (.tuple ds)) : ∃ a xs, v = .ref a ∧ SqT K G a xs ∧ DtAll K G xs ds := by
  cases h with
  | tup h1 h2 => exact ⟨_, _, rfl, h1, h2⟩
theorem DtAll.length : ∀ {vs : List V} {ds : List PyData}, DtAll K G vs ds → vs.length = ds.length
  | _, _, .nil => rfl
  | _, _, .cons _ t => congrArg (· + 1) (DtAll.length t)
theorem DtAll.at : ∀ {vs : List V} {ds : List PyData} {i : Nat} {d : PyData}, DtAll K G vs ds → ds[i]? = some d → ∃ v, vs[i]? = some v ∧ Dt K G v d
  | _, _, _, _, .nil, e => by simp at e
  | _, _, 0, _, .cons h _, e => by simp at e; subst e; exact ⟨_, rfl, h⟩
  | _, _, i + 1, _, .cons _ t, e => by
    obtain ⟨v, h1, h2⟩ := DtAll.at (i := i) t (by simpa using e)
    exact ⟨v, by simpa using h1, h2⟩
theorem DtAll.atV : ∀ {vs : List V} {ds : List PyData} {i : Nat} {v : V}, DtAll K G vs ds → vs[i]? = some v → ∃ d, ds[i]? = some d ∧ Dt K G v d
  | _, _, _, _, .nil, e => by simp at e
  | _, _, 0, _, .cons h _, e => by simp at e; subst e; exact ⟨_, rfl, h⟩
  | _, _, i + 1, _, .cons _ t, e => by
    obtain ⟨v, h1, h2⟩ := DtAll.atV (i := i) t (by simpa using e)
    exact ⟨v, by simpa using h1, h2⟩
theorem DtAll.app : ∀ {vs ws : List V} {ds es : List PyData}, DtAll K G vs ds → DtAll K G ws es → DtAll K G (vs ++ ws) (ds ++ es)
  | _, _, _, _, .nil, h => h
  | _, _, _, _, .cons h t, h' => .cons h (DtAll.app t h')
theorem DtAll.take : ∀ {vs : List V} {ds : List PyData} (n : Nat), DtAll K G vs ds → DtAll K G (vs.take n) (ds.take n)
  | _, _, 0, _ => .nil
  | _, _, _ + 1, .nil => .nil
  | _, _, n + 1, .cons h t => .cons h (DtAll.take n t)
theorem DtAll.drop : ∀ {vs : List V} {ds : List PyData} (n : Nat), DtAll K G vs ds → DtAll K G (vs.drop n) (ds.drop n)
  | _, _, 0, h => h
  | _, _, _ + 1, .nil => .nil
  | _, _, n + 1, .cons _ t => DtAll.drop n t
theorem DtAll.dropLast {vs : List V} {ds : List PyData} (h : DtAll K G vs ds) : DtAll K G vs.dropLast ds.dropLast := by
  rw [List.dropLast_eq_take, List.dropLast_eq_take, h.length]
  exact DtAll.take _ h
theorem DtAll.ints : ∀ {ns : List Int} {vs : List V}, DtAll K G vs (ns.map .int) → vs = ns.map V.int
  | [], _, h => by cases h; rfl
  | n :: ns, _, h => by
    cases h with
    | cons h1 h2 => rw [dp_int h1, DtAll.ints h2]; rfl
theorem DtAll.bls : ∀ {ns : List Bool} {vs : List V}, DtAll K G vs (ns.map .bool) → vs = ns.map V.bl
  | [], _, h => by cases h; rfl
  | n :: ns, _, h => by
    cases h with
    | cons h1 h2 => rw [dp_bl h1, DtAll.bls h2]; rfl
theorem dpAll_ints : ∀ (ns : List Int), DtAll K G (ns.map V.int) (ns.map .int)
  | [] => .nil
  | n :: ns => .cons (.int n) (dpAll_ints ns)
theorem DtAll.rep (h : Dt K G v d) : ∀ n : Nat, DtAll K G (List.replicate n v) (List.replicate n d)
  | 0 => .nil
  | n + 1 => by rw [List.replicate_succ, List.replicate_succ]; exact .cons h (DtAll.rep h n)
end
end L2
/-! Part 1: slots, environments, the judgements. -/
namespace TW
open PySem PySem.Spec PyProof.Rows L2

structure Wd where
  P : Program
  w : World
  K : PySem.W.Frag
  mg : Str → Option Value
  base : Heap

/-! ### keys -/
mutual
def toKey : PyData → NestedKey
  | .none => .none
  | .bool b => .num (if b then 1 else 0)
  | .int i => .num i
  | .str x => .text x
  | .tuple ds => .tup (toKeys ds)
  | .list _ => .none
  | .dict _ => .none
def toKeys : List PyData → List NestedKey
  | [] => []
  | d :: ds => toKey d :: toKeys ds
end
mutual
def keyable : PyData → Bool
  | .int _ => true
  | .tuple ds => keyables ds
  | _ => false
def keyables : List PyData → Bool
  | [] => true
  | d :: ds => keyable d && keyables ds
end
def isKey (d : PyData) : Prop := keyable d = true ∧ (toKey d).depth ≤ 8
mutual
theorem reads_key {h : Heap} : ∀ (d : PyData) (v : Value) (as : List Addr), Reads h v d as → keyable d = true → NestedIs h (toKey d) v
  | .int _, _, _, r, _ => by cases r; exact .int _ _
  | .tuple ds, _, _, r, k => by
    cases r with
    | tuple h1 h2 h3 h4 => exact .tup h1 h2 h3 (reads_keys ds _ _ h4 (by simpa [keyable] using k))
  | .none, _, _, _, k => by simp [keyable] at k
  | .bool _, _, _, _, k => by simp [keyable] at k
  | .str _, _, _, _, k => by simp [keyable] at k
  | .list _, _, _, _, k => by simp [keyable] at k
  | .dict _, _, _, _, k => by simp [keyable] at k
theorem reads_keys {h : Heap} : ∀ (ds : List PyData) (vs : List Value) (as : List Addr), ReadsAll h vs ds as → keyables ds = true → NestedAll h (toKeys ds) vs
  | [], _, _, r, _ => by cases r; exact .nil
  | d :: ds, _, _, r, k => by
    have k' : keyable d = true ∧ keyables ds = true := by simpa [keyables] using k
    cases r with
    | cons h1 h2 => exact .cons (reads_key d _ _ h1 k'.1) (reads_keys ds _ _ h2 k'.2)
end
mutual
theorem toKey_inj : ∀ (d e : PyData), keyable d = true → keyable e = true → toKey d = toKey e → d = e
  | .int i, .int j, _, _, q => by simp only [toKey, NestedKey.num.injEq] at q; rw [q]
  | .int _, .tuple _, _, _, q => by simp [toKey] at q
  | .tuple _, .int _, _, _, q => by simp [toKey] at q
  | .tuple ds, .tuple es, k1, k2, q => by
    simp only [toKey, NestedKey.tup.injEq] at q
    rw [toKeys_inj ds es (by simpa [keyable] using k1) (by simpa [keyable] using k2) q]
  | .none, _, k, _, _ => by simp [keyable] at k
  | .bool _, _, k, _, _ => by simp [keyable] at k
  | .str _, _, k, _, _ => by simp [keyable] at k
  | .list _, _, k, _, _ => by simp [keyable] at k
  | .dict _, _, k, _, _ => by simp [keyable] at k
  | .int _, .none, _, k, _ => by simp [keyable] at k
  | .int _, .bool _, _, k, _ => by simp [keyable] at k
  | .int _, .str _, _, k, _ => by simp [keyable] at k
  | .int _, .list _, _, k, _ => by simp [keyable] at k
  | .int _, .dict _, _, k, _ => by simp [keyable] at k
  | .tuple _, .none, _, k, _ => by simp [keyable] at k
  | .tuple _, .bool _, _, k, _ => by simp [keyable] at k
  | .tuple _, .str _, _, k, _ => by simp [keyable] at k
  | .tuple _, .list _, _, k, _ => by simp [keyable] at k
  | .tuple _, .dict _, _, k, _ => by simp [keyable] at k
theorem toKeys_inj : ∀ (ds es : List PyData), keyables ds = true → keyables es = true → toKeys ds = toKeys es → ds = es
  | [], [], _, _, _ => rfl
  | [], _ :: _, _, _, q => by simp [toKeys] at q
  | _ :: _, [], _, _, q => by simp [toKeys] at q
  | d :: ds, e :: es, k1, k2, q => by
    have a1 : keyable d = true ∧ keyables ds = true := by simpa [keyables] using k1
    have a2 : keyable e = true ∧ keyables es = true := by simpa [keyables] using k2
    simp only [toKeys, List.cons.injEq] at q
    rw [toKey_inj d e a1.1 a2.1 q.1, toKeys_inj ds es a1.2 a2.2 q.2]
end

/-! ### dicts by nested keys -/
def NDo (P : Program) (w : World) (d : Addr) (xs : List (NestedKey × Addr × Value)) : Heap → Prop := fun h =>
  ∃ o es ep, h.get? d = some o ∧ o.ExactDict ∧ o.data = .dict es ep ∧ es.toList = xs.map (entryOfKey (nestedKind P w))
def EntOk (K : PySem.W.Frag) (G : Hp) (kv : PyData × PyData) (x : NestedKey × Addr × Value) : Prop :=
  toKey kv.1 = x.1 ∧ isKey kv.1 ∧ Dt K G (.ref x.2.1) kv.1 ∧ ∃ v, RelV v x.2.2 ∧ Dt K G v kv.2
structure ND (W : Wd) (G H : Hp) (d : Addr) (kvs : List (PyData × PyData)) : Prop where
  nsys : (d == sysModules) = false
  small : kvs.length ≤ sizeLine
  ent : ∃ xs, H d = some (.ext (NDo W.P W.w d xs)) ∧ (xs.map (·.1)).Nodup ∧ Paired (EntOk W.K G) kvs xs
theorem ND.up {W : Wd} {G H G' H' : Hp} {d : Addr} {kvs : List (PyData × PyData)} (x : ND W G H d kvs) (e : Same G G') (hd : ∀ o, H d = some o → H' d = some o) : ND W G' H' d kvs := by
  obtain ⟨n, z, xs, h1, h2, h3⟩ := x
  exact ⟨n, z, xs, hd _ h1, h2, Paired.mapP h3 fun _ _ ⟨a, b, c, v, r, q⟩ => ⟨a, b, c.up e, v, r, q.up e⟩⟩

/-! ### slots -/
inductive Slot where
  | un
  | im (d : PyData)
  | mu (ds : List PyData)
  | dk (kvs : List (PyData × PyData))
  | dr (kvs : List (PyData × PyData))
  | sq (ns : List Int)
def Slot.own : Slot → Bool
  | .mu _ => true
  | .dk _ => true
  | _ => false
def Slot.ptr : Slot → Bool
  | .mu _ => true
  | .dk _ => true
  | .dr _ => true
  | _ => false
abbrev SC := List Slot
def SlotOk (W : Wd) (G H : Hp) (v : V) : Slot → Prop
  | .un => True
  | .im d => Dt W.K G v d
  | .mu ds => ∃ l vs, v = .ref l ∧ H l = some (.lst vs) ∧ G l = none ∧ DtAll W.K G vs ds
  | .dk kvs => ∃ d, v = .ref d ∧ G d = none ∧ ND W G H d kvs
  | .dr kvs => ∃ d, v = .ref d ∧ ND W G H d kvs
  | .sq ns => ∃ a, v = .ref a ∧ SqL W.K G a (ns.map V.int)
structure Nv (W : Wd) (G H : Hp) (σ : L2.St) (Γ : SC) : Prop where
  sub : Same G H
  len : σ.length = Γ.length
  at' : ∀ (i : Nat) (s : Slot), Γ[i]? = some s → s ≠ .un → ∃ v, σ[i]? = some (some v) ∧ SlotOk W G H v s
  apart : ∀ (i j : Nat) (s t : Slot) (l : Addr), i ≠ j → Γ[i]? = some s → Γ[j]? = some t → s.ptr = true → t.ptr = true → σ[i]? = some (some (V.ref l)) → σ[j]? ≠ some (some (V.ref l))
def Own (σ : L2.St) (Γ : SC) (l : Addr) : Prop := ∃ (i : Nat) (s : Slot), Γ[i]? = some s ∧ s.own = true ∧ σ[i]? = some (some (V.ref l))

section
variable {W : Wd} {G H G' H' G1 H1 : Hp} {σ : L2.St} {Γ : SC}
theorem gr_free (g : Gr G H G' H') {l : Addr} {o : HO} (h : G l = none) (h' : H l = some o) : G' l = none := by
  by_cases e : G' l = none
  · exact e
  · have := g.new l h e
    rw [h'] at this
    cases this
theorem SlotOk.gr {v : V} {s : Slot} (x : SlotOk W G H v s) (g : Gr G H G' H') : SlotOk W G' H' v s := by
  cases s with
  | un => trivial
  | im d => exact Dt.up x g.up
  | mu ds =>
    obtain ⟨l, vs, e, h1, h2, h3⟩ := x
    exact ⟨l, vs, e, g.same _ _ h1, gr_free g h2 h1, h3.up g.up⟩
  | dk kvs =>
    obtain ⟨d, e, h1, h2⟩ := x
    obtain ⟨_, _, xs, q, _⟩ := id h2
    exact ⟨d, e, gr_free g h1 q, h2.up g.up fun o => g.same d o⟩
  | dr kvs =>
    obtain ⟨d, e, h2⟩ := x
    exact ⟨d, e, h2.up g.up fun o => g.same d o⟩
  | sq ns => obtain ⟨a, e, q⟩ := x; exact ⟨a, e, sql_up g.up q⟩
theorem Nv.gr (x : Nv W G H σ Γ) (g : Gr G H G' H') : Nv W G' H' σ Γ :=
  ⟨g.sub, x.len, fun i s a b => let ⟨v, h1, h2⟩ := x.at' i s a b; ⟨v, h1, h2.gr g⟩, x.apart⟩
theorem Nv.refl (x : Nv W G H σ Γ) : Gr G H G H := Gr.refl x.sub
theorem Nv.im (x : Nv W G H σ Γ) {i : Nat} {d : PyData} (h : Γ[i]? = some (.im d)) : ∃ v, σ[i]? = some (some v) ∧ Dt W.K G v d := x.at' i _ h (by intro z; cases z)
theorem Nv.mu (x : Nv W G H σ Γ) {i : Nat} {ds : List PyData} (h : Γ[i]? = some (.mu ds)) : ∃ l vs, σ[i]? = some (some (.ref l)) ∧ H l = some (.lst vs) ∧ G l = none ∧ DtAll W.K G vs ds := by
  obtain ⟨v, h1, l, vs, rfl, h2⟩ := x.at' i _ h (by intro z; cases z)
  exact ⟨l, vs, h1, h2⟩
/-- a slot gets data -/
theorem Nv.set (x : Nv W G H σ Γ) {i : Nat} {v : V} {s : Slot} (hs : SlotOk W G H v s) (hp : s.ptr = true → ∀ l : Addr, v = .ref l → ∀ (j : Nat) (t : Slot), j ≠ i → Γ[j]? = some t → t.ptr = true → σ[j]? ≠ some (some (V.ref l))) : Nv W G H (σ.set i (some v)) (Γ.set i s) := by
  refine ⟨x.sub, by simpa using x.len, fun j t a b => ?_, fun j k t u l hjk a b c d e q => ?_⟩
  · by_cases hj : i = j
    · subst hj
      have hi : i < Γ.length := by
        have := (List.getElem?_eq_some_iff.mp a).1
        simpa using this
      rw [List.getElem?_set_self hi] at a
      cases a
      exact ⟨v, List.getElem?_set_self (by rw [x.len]; exact hi), hs⟩
    · rw [List.getElem?_set_ne hj] at a ⊢
      exact x.at' j t a b
  · by_cases hj : i = j
    · subst hj
      have hi : i < Γ.length := by
        have := (List.getElem?_eq_some_iff.mp a).1
        simpa using this
      rw [List.getElem?_set_self hi] at a
      cases a
      rw [List.getElem?_set_self (by rw [x.len]; exact hi)] at e
      rw [List.getElem?_set_ne hjk] at b q
      exact hp c l (by simpa using e) k u (fun z => hjk z.symm) b d q
    · rw [List.getElem?_set_ne hj] at a e
      by_cases hk : i = k
      · subst hk
        have hi : i < Γ.length := by
          have := (List.getElem?_eq_some_iff.mp b).1
          simpa using this
        rw [List.getElem?_set_self hi] at b
        cases b
        rw [List.getElem?_set_self (by rw [x.len]; exact hi)] at q
        exact hp d l (by simpa using q) j t hjk a c e
      · rw [List.getElem?_set_ne hk] at b q
        exact x.apart j k t u l hjk a b c d e q
theorem Nv.setIm (x : Nv W G H σ Γ) {v : V} {d : PyData} (i : Nat) (h : Dt W.K G v d) : Nv W G H (σ.set i (some v)) (Γ.set i (.im d)) := x.set h fun z => by cases z
/-- a slot's knowledge is forgotten -/
theorem Nv.drop (x : Nv W G H σ Γ) (i : Nat) (o : Option V) : Nv W G H (σ.set i o) (Γ.set i .un) := by
  refine ⟨x.sub, by simpa using x.len, fun j t a b => ?_, fun j k t u l hjk a b c d e q => ?_⟩
  · by_cases hj : i = j
    · subst hj
      have hi : i < Γ.length := by
        have := (List.getElem?_eq_some_iff.mp a).1
        simpa using this
      rw [List.getElem?_set_self hi] at a
      cases a
      exact absurd rfl b
    · rw [List.getElem?_set_ne hj] at a ⊢
      exact x.at' j t a b
  · have no : ∀ {m : Nat} {z : Slot}, (Γ.set i .un)[m]? = some z → z.ptr = true → i ≠ m := fun {m z} h1 h2 e => by
      subst e
      have hi : i < Γ.length := by
        have := (List.getElem?_eq_some_iff.mp h1).1
        simpa using this
      rw [List.getElem?_set_self hi] at h1
      cases h1
      cases h2
    have n1 := no a c
    have n2 := no b d
    rw [List.getElem?_set_ne n1] at a e
    rw [List.getElem?_set_ne n2] at b q
    exact x.apart j k t u l hjk a b c d e q
def wipeC (Γ : SC) : List Nat → SC
  | [] => Γ
  | v :: vs => (wipeC Γ vs).set v .un
theorem Nv.wipe (x : Nv W G H σ Γ) : ∀ vs : List Nat, Nv W G H (L2.wipe σ vs) (wipeC Γ vs)
  | [] => x
  | v :: vs => (Nv.wipe x vs).drop v none
theorem wipe_set {o : Option V} : ∀ {vs : List Nat} {σ : L2.St} {i : Nat}, i ∈ vs → L2.wipe (σ.set i o) vs = L2.wipe σ vs
  | [], _, _, h => nomatch h
  | v :: vs, σ, i, h => by
    show (L2.wipe (σ.set i o) vs).set v none = (L2.wipe σ vs).set v none
    by_cases hm : i ∈ vs
    · rw [wipe_set hm]
    · have e : i = v := (List.mem_cons.mp h).resolve_right hm
      subst e
      have comm : ∀ (ws : List Nat) (τ : L2.St), i ∉ ws → L2.wipe (τ.set i o) ws = (L2.wipe τ ws).set i o := by
        intro ws
        induction ws with
        | nil => intro τ _; rfl
        | cons u us ih =>
          intro τ hn
          rw [List.mem_cons, not_or] at hn
          show (L2.wipe (τ.set i o) us).set u none = ((L2.wipe τ us).set u none).set i o
          rw [ih τ hn.2, List.set_comm _ _ hn.1]
      rw [comm vs σ hm, List.set_set]
theorem wipe_idem {vs : List Nat} {σ : L2.St} : L2.wipe (L2.wipe σ vs) vs = L2.wipe σ vs := by
  have h : ∀ (ws : List Nat) (τ : L2.St), (∀ i ∈ ws, i ∈ vs) → L2.wipe (L2.wipe τ ws) vs = L2.wipe τ vs := by
    intro ws
    induction ws with
    | nil => intro τ _; rfl
    | cons u us ih =>
      intro τ hs
      show L2.wipe ((L2.wipe τ us).set u none) vs = _
      rw [wipe_set (hs u (List.mem_cons_self ..)), ih τ fun i hi => hs i (List.mem_cons_of_mem _ hi)]
  exact h vs σ fun _ h => h
end

/-! ### what evaluates to what -/
def EvD (W : Wd) (t : TE) (Γ : SC) (d : PyData) : Prop := ∀ σ G H, Nv W G H σ Γ → ∀ Q : VK, (∀ v G' H', Gr G H G' H' → Dt W.K G' v d → Q v H') → t σ H Q
def EvB (W : Wd) (t : TT) (Γ : SC) (b : Bool) : Prop := ∀ σ G H, Nv W G H σ Γ → ∀ Q : Bool → Hp → Prop, (∀ G' H', Gr G H G' H' → Q b H') → t σ H Q
def EvA (W : Wd) (t : TA) (Γ : SC) (ds : List PyData) : Prop := ∀ σ G H, Nv W G H σ Γ → ∀ Q : List V → Hp → Prop, (∀ vs G' H', Gr G H G' H' → DtAll W.K G' vs ds → Q vs H') → t σ H Q

/-- a family of contexts of one def -/
structure Fm (W : Wd) (k : Nat) {ι : Type} (F : ι → Cx) : Prop where
  prog : ∀ i, (F i).prog = W.P
  w : ∀ i, (F i).w = W.w
  K : ∀ i, (F i).K = W.K
  mg : ∀ i, (F i).mg = W.mg
  base : ∀ i, (F i).base = W.base
  calm : ∀ i, (F i).calm = true
  room : ∀ i, Room k (F i).A
  xe : ∀ i, (F i).xe = fun _ _ => False
  nd : ∀ i, (F i).N.Nodup
def blkF {ι : Type} (F : ι → Cx) (scope : Scope) : ι × Shared × Hp × Addr × List (Str × Addr) × List Addr → Cx := fun j =>
  (F j.1).blk j.2.1 j.2.2.1 scope (compEnvC scope j.2.2.2.2.1 j.2.2.2.1 (F j.1).env) j.2.2.2.2.2
theorem Fm.blk {W : Wd} {k : Nat} {ι : Type} {F : ι → Cx} (f : Fm W k F) (scope : Scope) : Fm W k (blkF F scope) :=
  ⟨fun j => f.prog j.1, fun j => f.w j.1, fun j => f.K j.1, fun j => f.mg j.1, fun j => f.base j.1, fun j => f.calm j.1, fun j => f.room j.1, fun _ => rfl, fun j => f.nd j.1⟩

section
variable {ι : Type}
def TEw (F : ι → Cx) (e : Expr) : TE := fun σ H Q => ∀ i pins s, Inv (F i) pins σ H s → wpAny (model (F i).prog (F i).w) (F i).A (eval e (F i).env) (EP (F i) pins σ Q) (F i).xe s
def TTw (F : ι → Cx) (e : Expr) : TT := fun σ H Q => ∀ i pins s, Inv (F i) pins σ H s → wpAny (model (F i).prog (F i).w) (F i).A (isTrue e (F i).env (eval e (F i).env)) (TP (F i) pins σ Q) (F i).xe s
def TWw (F : ι → Cx) (e : Expr) : TT := fun σ H Q => ∀ i (wh : Sem Value) pins s, Inv (F i) pins σ H s → wpAny (model (F i).prog (F i).w) (F i).A (isTrue e (F i).env wh) (TP (F i) pins σ Q) (F i).xe s
def TAw (F : ι → Cx) (es : List Expr) : TA := fun σ H Q => ∀ i (pos : Pos) pins s, Inv (F i) pins σ H s → wpAny (model (F i).prog (F i).w) (F i).A (spliced (backTo pos (starEach es (F i).env))) (AP (F i) pins σ Q) (F i).xe s
def TSw (F : ι → Cx) (st : Stmt) : TS := fun D σ H => ∀ i pins s, Inv (F i) pins σ H s → wpAny (model (F i).prog (F i).w) (F i).A (exec st (F i).env) (SP (F i) pins D) (F i).xe s
def TSsw (F : ι → Cx) (st : List Stmt) : TS := fun D σ H => ∀ i pins s, Inv (F i) pins σ H s → wpAny (model (F i).prog (F i).w) (F i).A (execs st (F i).env) (SP (F i) pins D) (F i).xe s
variable {F : ι → Cx} {e : Expr} {es : List Expr} {st : Stmt} {sts : List Stmt}
theorem pe_w (i : ι) : PE (F i) e (TEw F e) := ⟨fun pins s _ _ _ I h => h i pins s I⟩
theorem pt_w (i : ι) : PT (F i) e (TTw F e) := ⟨fun pins s _ _ _ I h => h i pins s I⟩
theorem pw_w (i : ι) : PW (F i) e (TWw F e) := ⟨fun wh pins s _ _ _ I h => h i wh pins s I⟩
theorem pa_w (i : ι) : PA (F i) es (TAw F es) := ⟨fun pos pins s _ _ _ I h => h i pos pins s I⟩
theorem ps_w (i : ι) : PS (F i) st (TSw F st) := ⟨fun pins s _ _ _ I h => h i pins s I⟩
theorem pss_w (i : ι) : PSs (F i) sts (TSsw F sts) := ⟨fun pins s _ _ _ I h => h i pins s I⟩
variable {W : Wd} {Γ : SC} {d : PyData} {ds : List PyData} {b : Bool}
/-- the expression e evaluates, in Γ, to d -/
def EX (W : Wd) (F : ι → Cx) (e : Expr) (Γ : SC) (d : PyData) : Prop := EvD W (TEw F e) Γ d
def EB (W : Wd) (F : ι → Cx) (e : Expr) (Γ : SC) (b : Bool) : Prop := EvB W (TTw F e) Γ b
def EW (W : Wd) (F : ι → Cx) (e : Expr) (Γ : SC) (b : Bool) : Prop := EvB W (TWw F e) Γ b
def EA (W : Wd) (F : ι → Cx) (es : List Expr) (Γ : SC) (ds : List PyData) : Prop := EvA W (TAw F es) Γ ds
theorem EX.of {t : TE} (h : ∀ i, PE (F i) e t) (ev : EvD W t Γ d) : EX W F e Γ d := fun σ G H en Q q i pins s I => (h i).run pins s σ H Q I (ev σ G H en Q q)
theorem EB.of {t : TT} (h : ∀ i, PT (F i) e t) (ev : EvB W t Γ b) : EB W F e Γ b := fun σ G H en Q q i pins s I => (h i).run pins s σ H Q I (ev σ G H en Q q)
theorem EW.of {t : TT} (h : ∀ i, PW (F i) e t) (ev : EvB W t Γ b) : EW W F e Γ b := fun σ G H en Q q i wh pins s I => (h i).run wh pins s σ H Q I (ev σ G H en Q q)
theorem EA.of {t : TA} (h : ∀ i, PA (F i) es t) (ev : EvA W t Γ ds) : EA W F es Γ ds := fun σ G H en Q q i pos pins s I => (h i).run pos pins s σ H Q I (ev σ G H en Q q)
theorem EX.is {d' : PyData} (h : EX W F e Γ d) (q : d = d') : EX W F e Γ d' := q ▸ h
theorem EB.is {b' : Bool} (h : EB W F e Γ b) (q : b = b') : EB W F e Γ b' := q ▸ h
end
end TW
/-! Part 2: expressions. -/
namespace TW
open PySem PySem.Spec PyProof.Rows L2
section
variable {ι : Type} {W : Wd} {F : ι → Cx} {k : Nat} {Γ : SC} {a b e : Expr} {es : List Expr} {x y z d : PyData} {ds : List PyData} {pos p : Pos} {i : Nat} {n m : Int} {c : Bool}

/-! ### names, constants -/
theorem ex_var {nm : Str} (i : Nat) (hN : ∀ j, (F j).N[i]? = some nm) (hv : ∀ j, Vis (F j).env.scope nm) (h : Γ[i]? = some (.im d)) (hd : (nm == ("__debug__" : Str)) = false := by decide) (hcd : (nm == ("__classdict__" : Str)) = false := by decide) : EX W F (.Name nm pos) Γ d :=
  .of (fun j => pe_var (hN j) (hv j) hd hcd) fun σ G H en Q q => by
    obtain ⟨v, h1, h2⟩ := en.im h
    exact ⟨v, h1, q v G H en.refl h2⟩
theorem ex_int {j : Nat} : EX W F (.Constant (.int n) j pos) Γ (.int n) := .of (fun _ => pe_int) fun σ G H en Q q => q _ G H en.refl (.int n)
theorem ex_bl {j : Nat} : EX W F (.Constant (.bool c) j pos) Γ (.bool c) := .of (fun _ => pe_bl) fun σ G H en Q q => q _ G H en.refl (.bl c)
theorem ex_non {j : Nat} : EX W F (.Constant .none j pos) Γ .none := .of (fun _ => pe_non) fun σ G H en Q q => q _ G H en.refl .non
theorem ex_globI {nm : Str} {t : Tok} (fm : Fm W k F) (hg : ∀ j, Gl (F j) nm) (hm : W.mg nm = some (.int n t)) (hd : (nm == ("__debug__" : Str)) = false := by decide) : EX W F (.Name nm pos) Γ (.int n) :=
  .of (fun j => pe_glob (v := V.int n) (u := .int n t) (hg j) (by rw [fm.mg j]; exact hm) ⟨t, rfl⟩ hd) fun σ G H en Q q => q _ G H en.refl (.int n)
theorem ex_globR {nm : Str} {ad : Addr} (fm : Fm W k F) (hg : ∀ j, Gl (F j) nm) (hm : W.mg nm = some (.ref ad)) (hv : ∀ G, Dt W.K G (.ref ad) d) (hd : (nm == ("__debug__" : Str)) = false := by decide) : EX W F (.Name nm pos) Γ d :=
  .of (fun j => pe_glob (v := V.ref ad) (u := .ref ad) (hg j) (by rw [fm.mg j]; exact hm) rfl hd) fun σ G H en Q q => q _ G H en.refl (hv G)

/-! ### operators -/
def RD (W : Wd) (r : R2) (x y d : PyData) : Prop := ∀ G H vx vy, Same G H → Dt W.K G vx x → Dt W.K G vy y → ∀ Q : VK, (∀ v G' H', Gr G H G' H' → Dt W.K G' v d → Q v H') → r vx vy H Q
def OpD (W : Wd) (F : ι → Cx) (f : Value → Value → Sem Value) (x y d : PyData) : Prop := ∃ r : R2, (∀ i, OpR (F i) f r) ∧ RD W r x y d
def IxD (W : Wd) (F : ι → Cx) (x y d : PyData) : Prop := ∃ r : R2, (∀ i, IxR (F i) r) ∧ RD W r x y d
theorem evd_op {r : R2} {ta tb : TE} (ha : EvD W ta Γ x) (hb : EvD W tb Γ y) (hr : RD W r x y d) : EvD W (tOp r ta tb) Γ d := fun σ G H en Q q =>
  ha σ G H en _ fun v1 G1 H1 g1 d1 => hb σ G1 H1 (en.gr g1) _ fun v2 G2 H2 g2 d2 => hr G2 H2 v1 v2 g2.sub (d1.up g2.up) d2 Q fun v G3 H3 g3 d3 => q v G3 H3 ((g1.trans g2).trans g3) d3
theorem ex_op {op : Operator} (ho : OpD W F (binaryOp op) x y d) (ha : EX W F a Γ x) (hb : EX W F b Γ y) : EX W F (.BinOp a op b pos) Γ d :=
  let ⟨_, h1, h2⟩ := ho; .of (fun i => pe_op (h1 i) (pe_w i) (pe_w i)) (evd_op ha hb h2)
theorem ex_cmp {op : CmpOp} (ho : OpD W F (compareOp op) x y d) (ha : EX W F a Γ x) (hb : EX W F b Γ y) (hm : behindInMarks op b = false := by first | exact nomark _ | rfl) : EX W F (.Compare a [op] [b] pos) Γ d :=
  let ⟨_, h1, h2⟩ := ho; .of (fun i => pe_cmpR (h1 i) (pe_w i) (pe_w i) hm) (evd_op ha hb h2)
theorem eb_cmp {op : CmpOp} (ho : OpD W F (compareOp op) x y (.bool c)) (ha : EX W F a Γ x) (hb : EX W F b Γ y) (hm : behindInMarks op b = false := by first | exact nomark _ | rfl) : EB W F (.Compare a [op] [b] pos) Γ c :=
  let ⟨_, h1, h2⟩ := ho; .of (fun i => pt_cmpR (h1 i) (pe_w i) (pe_w i) hm) fun σ G H en Q q => evd_op ha hb h2 σ G H en _ fun v G' H' g d => ⟨c, dp_bl d, q G' H' g⟩
theorem ex_ix (ho : IxD W F x y d) (ha : EX W F a Γ x) (hb : EX W F b Γ y) (hs : PlainIx b := by exact fun _ _ => rfl) : EX W F (.Subscript a b pos) Γ d :=
  let ⟨_, h1, h2⟩ := ho; .of (fun i => pe_ix (h1 i) (pe_w i) (pe_w i) hs) (evd_op ha hb h2)

theorem rd_I0 {g : Int → Int → V} (h : ∀ G : Hp, Dt W.K G (g n m) d) : RD W (rI0 g) (.int n) (.int m) d := fun G H vx vy s dx dy Q q => ⟨n, m, dp_int dx, dp_int dy, q _ G H (Gr.refl s) (h G)⟩
theorem rd_I {C : Int → Int → Prop} {g : Int → Int → V} (hc : C n m) (h : ∀ G : Hp, Dt W.K G (g n m) d) : RD W (rI C g) (.int n) (.int m) d := fun G H vx vy s dx dy Q q => ⟨n, m, dp_int dx, dp_int dy, hc, q _ G H (Gr.refl s) (h G)⟩
theorem od_add : OpD W F (binaryOp .Add) (.int n) (.int m) (.int (n + m)) := ⟨_, fun _ => op_add, rd_I0 fun _ => .int _⟩
theorem od_sub : OpD W F (binaryOp .Sub) (.int n) (.int m) (.int (n - m)) := ⟨_, fun _ => op_sub, rd_I0 fun _ => .int _⟩
theorem od_mul (h : CMul n m) : OpD W F (binaryOp .Mult) (.int n) (.int m) (.int (n * m)) := ⟨_, fun _ => op_mul, rd_I h fun _ => .int _⟩
theorem od_mod (h : 0 < m) : OpD W F (binaryOp .Mod) (.int n) (.int m) (.int (n % m)) := ⟨_, fun _ => op_mod, rd_I h fun _ => .int _⟩
theorem od_fdiv (h : CDiv n m) : OpD W F (binaryOp .FloorDiv) (.int n) (.int m) (.int (n / m)) := ⟨_, fun _ => op_fdiv, rd_I h fun _ => .int _⟩
theorem od_pow (h : CPow n m) : OpD W F (binaryOp .Pow) (.int n) (.int m) (.int (n ^ m.toNat)) := ⟨_, fun _ => op_pow, rd_I h fun _ => .int _⟩
theorem od_iadd : OpD W F (inplaceOp .Add) (.int n) (.int m) (.int (n + m)) := ⟨_, fun _ => iop_add, rd_I0 fun _ => .int _⟩
theorem od_lt : OpD W F (compareOp .Lt) (.int n) (.int m) (.bool (decide (n < m))) := ⟨_, fun _ => op_lt, rd_I0 fun _ => .bl _⟩
theorem od_le : OpD W F (compareOp .LtE) (.int n) (.int m) (.bool (decide (n ≤ m))) := ⟨_, fun _ => op_le, rd_I0 fun _ => .bl _⟩
theorem od_gt : OpD W F (compareOp .Gt) (.int n) (.int m) (.bool (decide (m < n))) := ⟨_, fun _ => op_gt, rd_I0 fun _ => .bl _⟩
theorem od_ge : OpD W F (compareOp .GtE) (.int n) (.int m) (.bool (decide (m ≤ n))) := ⟨_, fun _ => op_ge, rd_I0 fun _ => .bl _⟩
theorem dec_V : decide (V.int n = V.int m) = decide (n = m) := by
  by_cases h : n = m
  · subst h; rw [decide_eq_true rfl, decide_eq_true rfl]
  · rw [decide_eq_false h, decide_eq_false fun q => h (V.int.inj q)]
theorem od_eqI : OpD W F (compareOp .Eq) (.int n) (.int m) (.bool (decide (n = m))) := ⟨_, fun _ => op_eq, fun G H vx vy s dx dy Q q => by
  cases dp_int dx; cases dp_int dy
  exact ⟨rfl, q _ G H (Gr.refl s) (by rw [dec_V]; exact .bl _)⟩⟩
theorem od_neI : OpD W F (compareOp .NotEq) (.int n) (.int m) (.bool (!decide (n = m))) := ⟨_, fun _ => op_ne, fun G H vx vy s dx dy Q q => by
  cases dp_int dx; cases dp_int dy
  exact ⟨rfl, q _ G H (Gr.refl s) (by rw [dec_V]; exact .bl _)⟩⟩
theorem od_eqD (fm : Fm W k F) (hx : SeqAt.shaped x = true) (hy : SeqAt.shaped y = true) : OpD W F (compareOp .Eq) x y (.bool (PyData.eqv x y)) :=
  ⟨rEqD W.K, fun i => by rw [← fm.K i]; exact op_eqD (fm.room i).units, fun G H vx vy s dx dy Q q => ⟨x, y, dt_dp s _ _ dx, dt_dp s _ _ dy, hx, hy, q _ G H (Gr.refl s) (.bl _)⟩⟩
theorem od_neD (fm : Fm W k F) (hx : SeqAt.shaped x = true) (hy : SeqAt.shaped y = true) : OpD W F (compareOp .NotEq) x y (.bool (!PyData.eqv x y)) :=
  ⟨rNeD W.K, fun i => by rw [← fm.K i]; exact op_neD (fm.room i).units, fun G H vx vy s dx dy Q q => ⟨x, y, dt_dp s _ _ dx, dt_dp s _ _ dy, hx, hy, q _ G H (Gr.refl s) (.bl _)⟩⟩
def isN : PyData → Bool
  | .none => true
  | _ => false
theorem dec_non {G : Hp} {v : V} (h : Dt W.K G v x) : decide (v = .non) = isN x := by cases h <;> rfl
theorem od_isN : OpD W F (compareOp .Is) x .none (.bool (isN x)) := ⟨_, fun _ => op_isN, fun G H vx vy s dx dy Q q => ⟨dp_non dy, q _ G H (Gr.refl s) (by rw [dec_non dx]; exact .bl _)⟩⟩
theorem od_notN : OpD W F (compareOp .IsNot) x .none (.bool (!isN x)) := ⟨_, fun _ => op_notN, fun G H vx vy s dx dy Q q => ⟨dp_non dy, q _ G H (Gr.refl s) (by rw [dec_non dx]; exact .bl _)⟩⟩
/-- an int in a list of ints -/
theorem inV_ints (i : Int) : ∀ ns : List Int, inV (.int i) (ns.map V.int) = ns.any fun j => decide (j = i)
  | [] => rfl
  | j :: ns => by
    show (eqV (.int j) (.int i) || inV (.int i) (ns.map V.int)) = (decide (j = i) || ns.any fun j => decide (j = i))
    rw [inV_ints i ns]
    congr 1
theorem flat_ints : ∀ ns : List Int, (ns.map V.int).all flatV = true
  | [] => rfl
  | _ :: ns => by rw [List.map_cons, List.all_cons, flat_ints ns]; rfl
theorem od_inI (fm : Fm W k F) {ns : List Int} : OpD W F (compareOp .In) (.int n) (.list (ns.map .int)) (.bool (ns.any fun j => decide (j = n))) :=
  ⟨rIn W.K false, fun i => by rw [← fm.K i]; exact op_in_seq, fun G H vx vy s dx dy Q q => by
    cases dp_int dx
    obtain ⟨l, xs, rfl, h1, h2⟩ := dp_lst dy
    cases h2.ints
    exact ⟨l, _, rfl, .inl (SqL.of (s _ _ h1)), rfl, flat_ints ns, q _ G H (Gr.refl s) (by rw [inV_ints]; exact .bl _)⟩⟩
/-- t + u of tuples -/
theorem od_catT (fm : Fm W k F) {ds es : List PyData} (hz : ds.length + es.length ≤ sizeLine) : OpD W F (binaryOp .Add) (.tuple ds) (.tuple es) (.tuple (ds ++ es)) :=
  ⟨rCatA W.K, fun i => by rw [← fm.K i]; exact op_catA, fun G H vx vy s dx dy Q q => by
    obtain ⟨l, xs, rfl, h1, h2⟩ := dp_tup dx
    obtain ⟨l2, ys, rfl, h3, h4⟩ := dp_tup dy
    refine ⟨l, l2, xs, ys, rfl, rfl, sqt_up s h1, sqt_up s h3, by rw [h2.length, h4.length]; exact hz, fun e => ?_, fun _ e => ?_, fun _ _ p hp => ?_⟩
    · subst e
      cases h2
      exact q _ G H (Gr.refl s) dy
    · subst e
      cases h4
      exact q _ G H (Gr.refl s) (by rw [List.append_nil]; exact dx)
    · have g := Gr.lay (o := .tup (xs ++ ys)) s hp
      exact q _ _ _ g (.tup (SqT.of upd_same) ((h2.up g.up).app (h4.up g.up)))⟩
/-- t[i], xs[i] -/
theorem atI_dt {K : PySem.W.Frag} {G : Hp} {xs : List V} {ds : List PyData} (h : DtAll K G xs ds) {j : Int} {d : PyData} (e : atI ds j = some d) : ∃ v, atI xs j = some v ∧ Dt K G v d := by
  unfold atI at e ⊢
  rw [h.length]
  cases q : ixN ds.length j with
  | none => rw [q] at e; cases e
  | some t =>
    rw [q] at e
    obtain ⟨v, h1, h2⟩ := DtAll.at h (i := t) e
    exact ⟨v, h1, h2⟩
theorem id_tup (fm : Fm W k F) (h : atI ds n = some d) : IxD W F (.tuple ds) (.int n) d :=
  ⟨rIxT W.K, fun i => by rw [← fm.K i]; exact ix_tup, fun G H vx vy s dx dy Q q => by
    obtain ⟨l, xs, rfl, h1, h2⟩ := dp_tup dx
    obtain ⟨v, h3, h4⟩ := atI_dt h2 h
    exact ⟨l, xs, n, v, rfl, dp_int dy, sqt_up s h1, h3, q v G H (Gr.refl s) h4⟩⟩
theorem id_lst (fm : Fm W k F) (h : atI ds n = some d) : IxD W F (.list ds) (.int n) d :=
  ⟨rIxL W.K, fun i => by rw [← fm.K i]; exact ix_list, fun G H vx vy s dx dy Q q => by
    obtain ⟨l, xs, rfl, h1, h2⟩ := dp_lst dx
    obtain ⟨v, h3, h4⟩ := atI_dt h2 h
    exact ⟨l, xs, n, v, rfl, dp_int dy, SqL.of (s _ _ h1), h3, q v G H (Gr.refl s) h4⟩⟩
/-- list + list -/
theorem od_cat {ds es : List PyData} (hz : ds.length + es.length ≤ sizeLine) : OpD W F (binaryOp .Add) (.list ds) (.list es) (.list (ds ++ es)) :=
  ⟨rCat, fun i => op_cat, fun G H vx vy s dx dy Q q => by
    obtain ⟨l, xs, rfl, h1, h2⟩ := dp_lst dx
    obtain ⟨l2, ys, rfl, h3, h4⟩ := dp_lst dy
    refine ⟨l, l2, xs, ys, rfl, rfl, s _ _ h1, s _ _ h3, by rw [h2.length, h4.length]; exact hz, fun p hp => ?_⟩
    have g := Gr.lay (o := .lst (xs ++ ys)) s hp
    exact q _ _ _ g (.lst upd_same ((h2.up g.up).app (h4.up g.up)))⟩
/-! ### unary -/
theorem ex_neg (ha : EX W F a Γ (.int n)) : EX W F (.UnaryOp .USub a pos) Γ (.int (-n)) :=
  .of (fun i => pe_un un_neg (pe_w i)) fun σ G H en Q q => ha σ G H en _ fun v G' H' g d => ⟨n, dp_int d, q _ G' H' g (.int _)⟩

/-! ### truth -/
theorem eb_bl (ha : EX W F e Γ (.bool c)) (he : ∀ j wh, isTrue e (F j).env wh = (do let v ← wh; standAt e.pos; holding [v] (truthy v))) : EB W F e Γ c :=
  .of (fun j => pt_val (pe_w j) (he j)) fun σ G H en Q q => ha σ G H en _ fun v G' H' g d => ⟨c, dp_bl d, q G' H' g⟩
theorem eb_not (ha : EB W F a Γ c) : EB W F (.UnaryOp .Not a pos) Γ (!c) := .of (fun j => pt_not (pt_w j)) fun σ G H en Q q => ha σ G H en _ fun G' H' g => q G' H' g
theorem eb_w (h : EW W F e Γ c) : EB W F e Γ c := .of (fun j => PW.pt (pw_w j)) h
theorem ew_and1 (ha : EB W F a Γ c) : EW W F (.BoolOp .And [a] pos) Γ c := .of (fun j => pw_and1 (pt_w j)) ha
theorem ew_or1 (ha : EB W F a Γ c) : EW W F (.BoolOp .Or [a] pos) Γ c := .of (fun j => pw_or1 (pt_w j)) ha
theorem ew_and {c' : Bool} (ha : EB W F a Γ c) (hb : c = true → EW W F (.BoolOp .And (b :: es) pos) Γ c') : EW W F (.BoolOp .And (a :: b :: es) pos) Γ (c && c') :=
  .of (fun j => pw_and (pt_w j) (pw_w j)) fun σ G H en Q q => ha σ G H en _ fun G1 H1 g1 => by
    cases c with
    | true => exact hb rfl σ G1 H1 (en.gr g1) _ fun G2 H2 g2 => q G2 H2 (g1.trans g2)
    | false => exact q G1 H1 g1
theorem ew_or {c' : Bool} (ha : EB W F a Γ c) (hb : c = false → EW W F (.BoolOp .Or (b :: es) pos) Γ c') : EW W F (.BoolOp .Or (a :: b :: es) pos) Γ (c || c') :=
  .of (fun j => pw_or (pt_w j) (pw_w j)) fun σ G H en Q q => ha σ G H en _ fun G1 H1 g1 => by
    cases c with
    | true => exact q G1 H1 g1
    | false => exact hb rfl σ G1 H1 (en.gr g1) _ fun G2 H2 g2 => q G2 H2 (g1.trans g2)
theorem ex_not (ha : EX W F a Γ (.bool c)) : EX W F (.UnaryOp .Not a pos) Γ (.bool (!c)) :=
  .of (fun j => pe_not (pe_w j)) fun σ G H en Q q => ha σ G H en _ fun v G' H' g d => ⟨c, dp_bl d, q _ G' H' g (.bl _)⟩
theorem ex_one {op : BoolOp} (ha : EX W F a Γ d) : EX W F (.BoolOp op [a] pos) Γ d := .of (fun j => pe_one (pe_w j)) ha
theorem ex_and {c' : Bool} (ha : EX W F a Γ (.bool c)) (hb : c = true → EX W F (.BoolOp .And (b :: es) pos) Γ (.bool c')) : EX W F (.BoolOp .And (a :: b :: es) pos) Γ (.bool (c && c')) :=
  .of (fun j => pe_and (pe_w j) (pe_w j)) fun σ G H en Q q => ha σ G H en _ fun v G1 H1 g1 d1 => ⟨c, dp_bl d1, by
    cases c with
    | true => exact hb rfl σ G1 H1 (en.gr g1) _ fun v G2 H2 g2 d2 => q v G2 H2 (g1.trans g2) d2
    | false => exact q _ G1 H1 g1 (.bl _)⟩
theorem ex_or {c' : Bool} (ha : EX W F a Γ (.bool c)) (hb : c = false → EX W F (.BoolOp .Or (b :: es) pos) Γ (.bool c')) : EX W F (.BoolOp .Or (a :: b :: es) pos) Γ (.bool (c || c')) :=
  .of (fun j => pe_or (pe_w j) (pe_w j)) fun σ G H en Q q => ha σ G H en _ fun v G1 H1 g1 d1 => ⟨c, dp_bl d1, by
    cases c with
    | true => exact q _ G1 H1 g1 (.bl _)
    | false => exact hb rfl σ G1 H1 (en.gr g1) _ fun v G2 H2 g2 d2 => q v G2 H2 (g1.trans g2) d2⟩

/-! ### arguments, displays -/
theorem ea_nil : EA W F [] Γ [] := .of (fun _ => pa_nil) fun σ G H en Q q => q [] G H en.refl .nil
theorem ea_cons (he : EX W F e Γ d) (hs : EA W F es Γ ds) (h : ∀ j, starEach (e :: es) (F j).env = (false, eval e (F j).env) :: starEach es (F j).env := by exact fun _ => rfl) : EA W F (e :: es) Γ (d :: ds) :=
  .of (fun j => pa_cons (pe_w j) (pa_w j) (h j)) fun σ G H en Q q => he σ G H en _ fun v G1 H1 g1 d1 => hs σ G1 H1 (en.gr g1) _ fun vs G2 H2 g2 d2 => q _ G2 H2 (g1.trans g2) (.cons (d1.up g2.up) d2)
theorem ex_tup {x1 : Nat} (h : EA W F es Γ ds) (hz : ds.length ≤ sizeLine := by exact Nat.le_of_ble_eq_true rfl) : EX W F (.Tuple es x1 pos) Γ (.tuple ds) :=
  .of (fun j => pe_tup (pa_w j)) fun σ G H en Q q => h σ G H en _ fun vs G1 H1 g1 d1 => ⟨by rw [d1.length]; exact hz, fun p hp => by
    have g := Gr.lay (o := .tup vs) g1.sub hp
    exact q _ _ _ (g1.trans g) (.tup (SqT.of upd_same) (d1.up g.up))⟩
theorem ex_lst (h : EA W F es Γ ds) (hz : ds.length ≤ sizeLine := by exact Nat.le_of_ble_eq_true rfl) : EX W F (.List es pos) Γ (.list ds) :=
  .of (fun j => pe_lst (pa_w j)) fun σ G H en Q q => h σ G H en _ fun vs G1 H1 g1 d1 => ⟨by rw [d1.length]; exact hz, fun p hp => by
    have g := Gr.lay (o := .lst vs) g1.sub hp
    exact q _ _ _ (g1.trans g) (.lst upd_same (d1.up g.up))⟩

/-! ### built-in calls -/
def CD (W : Wd) (r : List V → Hp → VK → Prop) (ds : List PyData) (d : PyData) : Prop := ∀ G H vs, Same G H → DtAll W.K G vs ds → ∀ Q : VK, (∀ v G' H', Gr G H G' H' → Dt W.K G' v d → Q v H') → r vs H Q
def CallD (W : Wd) (F : ι → Cx) (f : Value) (ds : List PyData) (d : PyData) : Prop := ∃ r, (∀ i, CallR (F i) f r) ∧ CD W r ds d
theorem ex_callB {nm : Str} {id : String} (fm : Fm W k F) (hc : CallD W F (.builtin id) ds d) (hg : ∀ j, Gl (F j) nm) (hm : W.mg nm = none) (hv : bootBuiltins nm = some (.builtin id)) (ha : EA W F (e :: es) Γ ds) (hn : nm ≠ "__name__" := by decide) (hdb : (nm == ("__debug__" : Str)) = false := by decide)
    (he : ∀ j, starEach (e :: es) (F j).env = (false, eval e (F j).env) :: starEach es (F j).env := by exact fun _ => rfl) (hpl : ∀ j, (backTo pos (starEach es (F j).env)).any (·.1) = false := by exact fun _ => rfl) : EX W F (.Call (.Name nm p) (e :: es) [] pos) Γ d :=
  let ⟨_, h1, h2⟩ := hc
  .of (fun j => pe_callB (h1 j) (hg j) (by rw [fm.mg j]; exact hm) hv (pa_w j) hn hdb (he j) (hpl j)) fun σ G H en Q q => ha σ G H en _ fun vs G1 H1 g1 d1 => h2 G1 H1 vs g1.sub d1 Q fun v G2 H2 g2 d2 => q v G2 H2 (g1.trans g2) d2
theorem ex_callTy {nm : Str} {T : String} (fm : Fm W k F) (hc : CallD W F (.type T) ds d) (hg : ∀ j, Gl (F j) nm) (hm : W.mg nm = none) (hv : bootBuiltins nm = some (.type T)) (ha : EA W F (e :: es) Γ ds) (hn : nm ≠ "__name__" := by decide) (hdb : (nm == ("__debug__" : Str)) = false := by decide)
    (he : ∀ j, starEach (e :: es) (F j).env = (false, eval e (F j).env) :: starEach es (F j).env := by exact fun _ => rfl) (hpl : ∀ j, (backTo pos (starEach es (F j).env)).any (·.1) = false := by exact fun _ => rfl) : EX W F (.Call (.Name nm p) (e :: es) [] pos) Γ d :=
  let ⟨_, h1, h2⟩ := hc
  .of (fun j => pe_callTy (h1 j) (hg j) (by rw [fm.mg j]; exact hm) hv (pa_w j) hn hdb (he j) (hpl j)) fun σ G H en Q q => ha σ G H en _ fun vs G1 H1 g1 d1 => h2 G1 H1 vs g1.sub d1 Q fun v G2 H2 g2 d2 => q v G2 H2 (g1.trans g2) d2
theorem dtAll1 {K : PySem.W.Frag} {G : Hp} {vs : List V} {d : PyData} (h : DtAll K G vs [d]) : ∃ v, vs = [v] ∧ Dt K G v d := by
  cases h with
  | cons h t => cases t; exact ⟨_, rfl, h⟩
theorem dtAll2 {K : PySem.W.Frag} {G : Hp} {vs : List V} {d d2 : PyData} (h : DtAll K G vs [d, d2]) : ∃ v w, vs = [v, w] ∧ Dt K G v d ∧ Dt K G w d2 := by
  cases h with
  | cons h t => cases t with
    | cons h2 t => cases t; exact ⟨_, _, rfl, h, h2⟩
theorem cd_len (fm : Fm W k F) : CallD W F (.builtin "len") [.list ds] (.int (ds.length : Int)) :=
  ⟨_, fun i => by have := @call_len_seq (F i); rw [fm.K i] at this; exact this, fun G H vs s da Q q => by
    obtain ⟨v, rfl, hv⟩ := dtAll1 da
    obtain ⟨l, xs, rfl, h1, h2⟩ := dp_lst hv
    exact ⟨l, xs, rfl, .inl (SqL.of (s _ _ h1)), by rw [h2.length]; exact q _ G H (Gr.refl s) (.int _)⟩⟩
theorem cd_lenT (fm : Fm W k F) : CallD W F (.builtin "len") [.tuple ds] (.int (ds.length : Int)) :=
  ⟨_, fun i => by have := @call_len_seq (F i); rw [fm.K i] at this; exact this, fun G H vs s da Q q => by
    obtain ⟨v, rfl, hv⟩ := dtAll1 da
    obtain ⟨l, xs, rfl, h1, h2⟩ := dp_tup hv
    exact ⟨l, xs, rfl, .inr (sqt_up s h1), by rw [h2.length]; exact q _ G H (Gr.refl s) (.int _)⟩⟩
theorem cd_sum (fm : Fm W k F) {ns : List Int} : CallD W F (.builtin "sum") [.list (ns.map .int)] (.int ns.sum) :=
  ⟨rSum W.K, fun i => by rw [← fm.K i]; exact cr_sum (fm.calm i), fun G H vs s da Q q => by
    obtain ⟨v, rfl, hv⟩ := dtAll1 da
    obtain ⟨l, xs, rfl, h1, h2⟩ := dp_lst hv
    cases h2.ints
    exact ⟨l, ns, rfl, SqL.of (s _ _ h1), q _ G H (Gr.refl s) (.int _)⟩⟩
theorem cd_any (fm : Fm W k F) {bs : List Bool} : CallD W F (.builtin "any") [.list (bs.map .bool)] (.bool (bs.any id)) :=
  ⟨rAny W.K, fun i => by rw [← fm.K i]; exact cr_any (fm.calm i), fun G H vs s da Q q => by
    obtain ⟨v, rfl, hv⟩ := dtAll1 da
    obtain ⟨l, xs, rfl, h1, h2⟩ := dp_lst hv
    cases h2.bls
    exact ⟨l, bs, rfl, SqL.of (s _ _ h1), q _ G H (Gr.refl s) (.bl _)⟩⟩
theorem cd_all (fm : Fm W k F) {bs : List Bool} : CallD W F (.builtin "all") [.list (bs.map .bool)] (.bool (bs.all id)) :=
  ⟨rAll W.K, fun i => by rw [← fm.K i]; exact cr_all (fm.calm i), fun G H vs s da Q q => by
    obtain ⟨v, rfl, hv⟩ := dtAll1 da
    obtain ⟨l, xs, rfl, h1, h2⟩ := dp_lst hv
    cases h2.bls
    exact ⟨l, bs, rfl, SqL.of (s _ _ h1), q _ G H (Gr.refl s) (.bl _)⟩⟩
theorem cd_int : CallD W F (.type "int") [.int n] (.int n) := ⟨_, fun _ => call_int1, fun G H vs s da Q q => by
  obtain ⟨v, rfl, hv⟩ := dtAll1 da
  cases dp_int hv
  exact .inl ⟨n, rfl, q _ G H (Gr.refl s) (.int _)⟩⟩
theorem cd_max2 (fm : Fm W k F) : CallD W F (.builtin "max") [.int n, .int m] (.int (max n m)) := ⟨_, fun i => call_max2 (fm.calm i), fun G H vs s da Q q => by
  obtain ⟨v, w, rfl, h1, h2⟩ := dtAll2 da
  cases dp_int h1; cases dp_int h2
  refine ⟨n, m, rfl, ?_⟩
  have e : (if m > n then m else n) = max n m := by split <;> omega
  rw [e]
  exact q _ G H (Gr.refl s) (.int _)⟩
theorem cd_min2 (fm : Fm W k F) : CallD W F (.builtin "min") [.int n, .int m] (.int (min n m)) := ⟨_, fun i => call_min2 (fm.calm i), fun G H vs s da Q q => by
  obtain ⟨v, w, rfl, h1, h2⟩ := dtAll2 da
  cases dp_int h1; cases dp_int h2
  refine ⟨n, m, rfl, ?_⟩
  have e : (if m < n then m else n) = min n m := by split <;> omega
  rw [e]
  exact q _ G H (Gr.refl s) (.int _)⟩
theorem cd_tupL (fm : Fm W k F) : CallD W F (.type "tuple") [.list ds] (.tuple ds) :=
  ⟨_, fun i => by have := @call_tuple_of (F i); rw [fm.K i] at this; exact this, fun G H vs s da Q q => by
    obtain ⟨v, rfl, hv⟩ := dtAll1 da
    obtain ⟨l, xs, rfl, h1, h2⟩ := dp_lst hv
    refine ⟨l, xs, rfl, .inl ⟨SqL.of (s _ _ h1), fun p hp => ?_⟩⟩
    have g := Gr.lay (o := .tup xs) s hp
    exact q _ _ _ g (.tup (SqT.of upd_same) (h2.up g.up))⟩
theorem cd_tupT (fm : Fm W k F) : CallD W F (.type "tuple") [.tuple ds] (.tuple ds) :=
  ⟨_, fun i => by have := @call_tuple_of (F i); rw [fm.K i] at this; exact this, fun G H vs s da Q q => by
    obtain ⟨v, rfl, hv⟩ := dtAll1 da
    obtain ⟨l, xs, rfl, h1, h2⟩ := dp_tup hv
    exact ⟨l, xs, rfl, .inr ⟨sqt_up s h1, q _ G H (Gr.refl s) hv⟩⟩⟩
/-- sorted of few ints -/
theorem cd_sortI (fm : Fm W k F) {ns ns' : List Int} (hl : ns.length < 64) (hp : ns'.Perm ns) (hs : ns'.Pairwise (· ≤ ·)) : CallD W F (.builtin "sorted") [.list (ns.map .int)] (.list (ns'.map .int)) :=
  ⟨rSorted W.K, fun i => by rw [← fm.K i]; exact cr_sorted, fun G H vs s da Q q => by
    obtain ⟨v, rfl, hv⟩ := dtAll1 da
    obtain ⟨l, xs, rfl, h1, h2⟩ := dp_lst hv
    cases h2.ints
    refine ⟨l, ns, rfl, SqL.of (s _ _ h1), hl, fun ms p h3 h4 hp' => ?_⟩
    have e : ms = ns' := (h3.trans hp.symm).eq_of_pairwise (fun _ _ _ _ a b => Int.le_antisymm a b) h4 hs
    subst e
    have g := Gr.lay (o := .lst (ms.map V.int)) s hp'
    exact q _ _ _ g (.lst upd_same (dpAll_ints ms))⟩
/-! ### slices -/
def EvO (W : Wd) (t : TO) (Γ : SC) (o : Option Int) : Prop := ∀ σ G H, Nv W G H σ Γ → ∀ Q : Option Int → Hp → Prop, (∀ G' H', Gr G H G' H' → Q o H') → t σ H Q
def TOw (F : ι → Cx) : Option Expr → TO
  | none => tNoPart
  | some e => tPart (TEw F e)
theorem po_w {e : Option Expr} (j : ι) : PO (F j) e (TOw F e) := match e with
  | none => po_none
  | some e => po_some (pe_w j)
def EO (W : Wd) (F : ι → Cx) (e : Option Expr) (Γ : SC) (o : Option Int) : Prop := EvO W (TOw F e) Γ o
theorem eo_none : EO W F none Γ none := fun σ G H en Q q => q G H en.refl
theorem eo_some (h : EX W F e Γ (.int n)) : EO W F (some e) Γ (some n) := fun σ G H en Q q => h σ G H en _ fun v G1 H1 g1 d1 => ⟨n, dp_int d1, q G1 H1 g1⟩
def cutD (xs : List PyData) (lo hi : Option Int) : List PyData := (xs.drop (HT.sIx xs.length 0 lo)).take (HT.sIx xs.length xs.length hi - HT.sIx xs.length 0 lo)
theorem cutV_dt {K : PySem.W.Frag} {G : Hp} {xs : List V} (h : DtAll K G xs ds) (lo hi : Option Int) : DtAll K G (cutV xs lo hi) (cutD ds lo hi) := by
  unfold cutV cutD
  rw [h.length]
  exact (h.drop _).take _
theorem ex_sliceL {lo hi : Option Expr} {l u : Option Int} {p2 : Pos} (fm : Fm W k F) (he : EX W F e Γ (.list ds)) (h1 : EO W F lo Γ l) (h2 : EO W F hi Γ u) : EX W F (.Subscript e (.Slice lo hi none p2) pos) Γ (.list (cutD ds l u)) :=
  .of (t := tSl (rSlL W.K) (TEw F e) (TOw F lo) (TOw F hi)) (fun j => by rw [← fm.K j]; exact pe_slice sl_list (pe_w j) (po_w j) (po_w j)) fun σ G H en Q q =>
    he σ G H en _ fun v G1 H1 g1 d1 => h1 σ G1 H1 (en.gr g1) _ fun G2 H2 g2 => h2 σ G2 H2 ((en.gr g1).gr g2) _ fun G3 H3 g3 => by
      obtain ⟨a, xs, rfl, h3, h4⟩ := dp_lst d1
      refine ⟨a, xs, rfl, SqL.of (g3.same _ _ (g2.same _ _ (g1.sub _ _ h3))), fun p hp => ?_⟩
      have g := Gr.lay (o := .lst (cutV xs l u)) g3.sub hp
      exact q _ _ _ (((g1.trans g2).trans g3).trans g) (.lst upd_same (cutV_dt ((((h4.up g2.up).up g3.up).up g.up)) l u))
theorem ex_sliceT {lo hi : Option Expr} {l u : Option Int} {p2 : Pos} (fm : Fm W k F) (he : EX W F e Γ (.tuple ds)) (h1 : EO W F lo Γ l) (h2 : EO W F hi Γ u) : EX W F (.Subscript e (.Slice lo hi none p2) pos) Γ (.tuple (cutD ds l u)) :=
  .of (t := tSl (rSlA W.K) (TEw F e) (TOw F lo) (TOw F hi)) (fun j => by rw [← fm.K j]; exact pe_slice sl_tupA (pe_w j) (po_w j) (po_w j)) fun σ G H en Q q =>
    he σ G H en _ fun v G1 H1 g1 d1 => h1 σ G1 H1 (en.gr g1) _ fun G2 H2 g2 => h2 σ G2 H2 ((en.gr g1).gr g2) _ fun G3 H3 g3 => by
      obtain ⟨a, xs, rfl, h3, h4⟩ := dp_tup d1
      have h5 := (h4.up g2.up).up g3.up
      refine ⟨a, xs, rfl, sqt_up g3.same (sqt_up g2.same (sqt_up g1.sub h3)), fun e => ?_, fun _ p hp => ?_⟩
      · refine q _ _ _ ((g1.trans g2).trans g3) (.tup (sqt_up g3.up (sqt_up g2.up h3)) ?_)
        have : cutV xs l u = xs := by
          unfold cutV
          rw [e.1, e.2, List.drop_zero, Nat.sub_zero, List.take_length]
        rw [← this]
        exact cutV_dt h5 l u
      · have g := Gr.lay (o := .tup (cutV xs l u)) g3.sub hp
        exact q _ _ _ (((g1.trans g2).trans g3).trans g) (.tup (SqT.of upd_same) (cutV_dt (h5.up g.up) l u))
/-! ### list(range(a, b)) -/
theorem ex_listRg2 {p2 pos2 : Pos} (fm : Fm W k F) (hg : ∀ j, Gl (F j) "list") (hm : W.mg "list" = none) (hg2 : ∀ j, Gl (F j) "range") (hm2 : W.mg "range" = none) (ha : EX W F a Γ (.int n)) (hb : EX W F b Γ (.int m)) (ok : RgOk n m)
    (na : ∀ j, starEach [.Call (.Name "range" p2) [a, b] [] pos2] (F j).env = (false, eval (.Call (.Name "range" p2) [a, b] [] pos2) (F j).env) :: starEach [] (F j).env := by exact fun _ => rfl)
    (n1 : ∀ j, starEach [a, b] (F j).env = (false, eval a (F j).env) :: starEach [b] (F j).env := by exact fun _ => rfl) (n2 : ∀ j, starEach [b] (F j).env = (false, eval b (F j).env) :: starEach [] (F j).env := by exact fun _ => rfl)
    (n3 : ∀ j, (backTo pos2 (starEach [b] (F j).env)).any (·.1) = false := by exact fun _ => rfl) :
    EX W F (.Call (.Name "list" p) [.Call (.Name "range" p2) [a, b] [] pos2] [] pos) Γ (.list ((List.range (m - n).toNat).map fun (t : Nat) => PyData.int (n + t))) :=
  .of (fun j => pe_listRg (fm.calm j) (hg j) (by rw [fm.mg j]; exact hm) (prg_2 (hg2 j) (by rw [fm.mg j]; exact hm2) (pe_w j) (pe_w j) (n1 j) (n2 j) (n3 j)) (na j)) fun σ G H en Q q =>
    ha σ G H en _ fun v1 G1 H1 g1 d1 => hb σ G1 H1 (en.gr g1) _ fun v2 G2 H2 g2 d2 => ⟨n, m, dp_int d1, dp_int d2, ok, fun p hp => by
      have g := Gr.lay (o := .lst (rgV n m)) g2.sub hp
      refine q _ _ _ ((g1.trans g2).trans g) (.lst upd_same ?_)
      have : ∀ (r : List Nat), DtAll W.K (upd G2 p (.lst (rgV n m))) (r.map fun (t : Nat) => V.int (n + t)) (r.map fun (t : Nat) => PyData.int (n + t)) := by
        intro r
        induction r with
        | nil => exact .nil
        | cons t r ih => exact .cons (.int _) ih
      exact this _⟩
end
end TW
/-! Part 3: calls of own defs, what is walked, targets, list comprehensions. -/
namespace TW
open PySem PySem.Spec PyProof.Rows L2
section
variable {ι : Type} {W : Wd} {F : ι → Cx} {k : Nat} {Γ : SC} {a b e tg iter elt : Expr} {es : List Expr} {x y z d : PyData} {ds ys : List PyData} {pos p : Pos} {n m : Int} {c : Bool}

/-! ### promises -/
def spD (W : Wd) (rel : List PyData → PyData → Prop) : Sp := fun vs H Q _ => ∃ G ds d, Same G H ∧ DtAll W.K G vs ds ∧ rel ds d ∧ ∀ v G' H', Gr G H G' H' → Dt W.K G' v d → Q v H'
/-- a new list -/
def spL (W : Wd) (rel : List PyData → List PyData → Prop) : Sp := fun vs H Q _ => ∃ G ds es, Same G H ∧ DtAll W.K G vs ds ∧ rel ds es ∧
  ∀ l ws G' H', H l = none → Gr G H G' H' → G' l = none → H' l = some (.lst ws) → DtAll W.K G' ws es → Q (.ref l) H'
structure Def (W : Wd) (k : Nat) (nm : Str) (ps : List Str) (sp : Sp) : Prop where
  ex : ∃ f fd, FnOk W.P W.w W.K W.mg W.base CX0 k f fd ps sp ∧ W.mg nm = some (.ref f) ∧ PySem.W.keepIn W.K (.ref f) = true ∧ Binds W.K fd ps []
theorem pe_def {nm : Str} {ps : List Str} {sp : Sp} {j : Nat} (fm : Fm W k F) (D : Def W j nm ps sp) (hj : j ≤ k) (hg : ∀ i, Gl (F i) nm) (hdb : (nm == ("__debug__" : Str)) = false)
    (he : ∀ i, starEach (e :: es) (F i).env = (false, eval e (F i).env) :: starEach es (F i).env) (hpl : ∀ i, (backTo pos (starEach es (F i).env)).any (·.1) = false) :
    ∀ i, PE (F i) (.Call (.Name nm p) (e :: es) [] pos) (tCall sp [] E0 (TAw F (e :: es))) := fun i => by
  obtain ⟨f, fd, G, hm, kp, bi⟩ := D.ex
  refine pe_call (X := F i) (CX := CX0) (k := j) (f := f) (fd := fd) (ps := ps) (ds := []) ?_ ((fm.room i).mono hj) (hg i) (by rw [fm.mg i]; exact hm) (by rw [fm.K i]; exact kp) (by rw [fm.K i]; exact bi) .nil pass0 (pa_w i) hdb (he i) (hpl i)
  rw [fm.prog i, fm.w i, fm.K i, fm.mg i, fm.base i]
  exact G
theorem ex_call {nm : Str} {ps : List Str} {rel : List PyData → PyData → Prop} {j : Nat} (fm : Fm W k F) (D : Def W j nm ps (spD W rel)) (hj : j ≤ k) (hg : ∀ i, Gl (F i) nm) (ha : EA W F (e :: es) Γ ds) (hr : rel ds d) (hdb : (nm == ("__debug__" : Str)) = false := by decide)
    (he : ∀ i, starEach (e :: es) (F i).env = (false, eval e (F i).env) :: starEach es (F i).env := by exact fun _ => rfl) (hpl : ∀ i, (backTo pos (starEach es (F i).env)).any (·.1) = false := by exact fun _ => rfl) : EX W F (.Call (.Name nm p) (e :: es) [] pos) Γ d :=
  .of (pe_def fm D hj hg hdb he hpl) fun σ G H en Q q => ha σ G H en _ fun vs G1 H1 g1 d1 => by
    rw [List.append_nil]
    exact ⟨G1, ds, d, g1.sub, d1, hr, fun v G2 H2 g2 d2 => q v G2 H2 (g1.trans g2) d2⟩

/-! ### new lists -/
def EvL (W : Wd) (t : TE) (Γ : SC) (ds : List PyData) : Prop := ∀ σ G H, Nv W G H σ Γ → ∀ Q : VK, (∀ l vs G' H', H l = none → Gr G H G' H' → G' l = none → H' l = some (.lst vs) → DtAll W.K G' vs ds → Q (.ref l) H') → t σ H Q
def EL (W : Wd) (F : ι → Cx) (e : Expr) (Γ : SC) (ds : List PyData) : Prop := EvL W (TEw F e) Γ ds
theorem EL.of {t : TE} (h : ∀ i, PE (F i) e t) (ev : EvL W t Γ ds) : EL W F e Γ ds := fun σ G H en Q q i pins s I => (h i).run pins s σ H Q I (ev σ G H en Q q)
theorem gr_freeze {G H G' H' : Hp} {l : Addr} {o : HO} (g : Gr G H G' H') (h0 : H l = none) (h1 : G' l = none) (h2 : H' l = some o) : Gr G H (upd G' l o) H' := by
  refine ⟨g.same, g.up.trans (same_laid h1), fun b u e => ?_, fun b e n => ?_⟩
  · by_cases hb : b = l
    · subst hb; rw [upd_same] at e; cases e; exact h2
    · rw [upd_ne hb] at e; exact g.sub b u e
  · by_cases hb : b = l
    · subst hb; exact h0
    · rw [upd_ne hb] at n; exact g.new b e n
theorem EvL.ev {t : TE} (h : EvL W t Γ ds) : EvD W t Γ (.list ds) := fun σ G H en Q q => h σ G H en Q fun l vs G' H' h0 g h1 h2 d => q _ _ _ (gr_freeze g h0 h1 h2) (.lst upd_same (d.up (same_laid h1)))
theorem EL.ex (h : EL W F e Γ ds) : EX W F e Γ (.list ds) := EvL.ev h
theorem EL.is (h : EL W F e Γ ds) (q : ds = ys) : EL W F e Γ ys := q ▸ h
theorem el_lst (h : EA W F es Γ ds) (hz : ds.length ≤ sizeLine := by exact Nat.le_of_ble_eq_true rfl) : EL W F (.List es pos) Γ ds :=
  .of (fun j => pe_lst (pa_w j)) fun σ G H en Q q => h σ G H en _ fun vs G1 H1 g1 d1 => ⟨by rw [d1.length]; exact hz, fun p hp => by
    have g := Gr.own (o := .lst vs) g1.sub hp
    exact q p vs G1 _ (g1.same.free hp) (g1.trans g) (g1.sub.free hp) upd_same d1⟩
theorem el_call {nm : Str} {ps : List Str} {rel : List PyData → List PyData → Prop} {j : Nat} (fm : Fm W k F) (D : Def W j nm ps (spL W rel)) (hj : j ≤ k) (hg : ∀ i, Gl (F i) nm) (ha : EA W F (e :: es) Γ ds) (hr : rel ds ys) (hdb : (nm == ("__debug__" : Str)) = false := by decide)
    (he : ∀ i, starEach (e :: es) (F i).env = (false, eval e (F i).env) :: starEach es (F i).env := by exact fun _ => rfl) (hpl : ∀ i, (backTo pos (starEach es (F i).env)).any (·.1) = false := by exact fun _ => rfl) : EL W F (.Call (.Name nm p) (e :: es) [] pos) Γ ys :=
  .of (pe_def fm D hj hg hdb he hpl) fun σ G H en Q q => ha σ G H en _ fun vs G1 H1 g1 d1 => by
    rw [List.append_nil]
    exact ⟨G1, ds, ys, g1.sub, d1, hr, fun l ws G2 H2 h0 g2 h1 h2 d2 => q l ws G2 H2 (g1.same.free h0) (g1.trans g2) h1 h2 d2⟩

/-! ### what is walked -/
/-- from G on, whatever is laid meanwhile, the iterator J gives ys, one after another -/
def Runs (W : Wd) (J : It) (G0 : Hp) (ys : List PyData) : Prop := ∀ G H, Same G0 G → Same G H →
  (∀ i y, ys[i]? = some y → J.go i H ∧ ∀ x H', J.yld i H x H' → ∃ G', Gr G H G' H' ∧ Dt W.K G' x y) ∧ J.stop ys.length H
def EvI (W : Wd) (t : TI) (Γ : SC) (ys : List PyData) : Prop := ∀ σ G H, Nv W G H σ Γ → ∀ R : It → Hp → Prop, (∀ J G' H', Gr G H G' H' → Runs W J G' ys → R J H') → t σ H R
def TIw (F : ι → Cx) (tg e : Expr) : TI := fun σ H R => ∀ i pins s, Inv (F i) pins σ H s → wpAny (model (F i).prog (F i).w) (F i).A (eval e (F i).env) (fun v s1 => wpAny (model (F i).prog (F i).w) (F i).A (pyIter v) (PIE (F i) pins σ tg R) (F i).xe s1) (F i).xe s
theorem pi_w (i : ι) : PI (F i) tg e (TIw F tg e) := ⟨fun pins s _ _ _ I h => h i pins s I⟩
def IX (W : Wd) (F : ι → Cx) (tg e : Expr) (Γ : SC) (ys : List PyData) : Prop := EvI W (TIw F tg e) Γ ys
theorem IX.of {t : TI} (h : ∀ i, PI (F i) tg e t) (ev : EvI W t Γ ys) : IX W F tg e Γ ys := fun σ G H en R q i pins s I => (h i).run pins s σ H R I (ev σ G H en R q)
theorem IX.is {zs : List PyData} (h : IX W F tg e Γ ys) (q : ys = zs) : IX W F tg e Γ zs := q ▸ h
theorem runs_list {G : Hp} {l : Addr} {xs : List V} (h : G l = some (.lst xs)) (t : DtAll W.K G xs ds) : Runs W (Itl W.K l) G ds := fun G1 H1 e s => by
  have hq : SqL W.K H1 l xs := SqL.of (s _ _ (e _ _ h))
  refine ⟨fun i y hy => ?_, xs, hq, by rw [t.length]; exact Nat.le_refl _⟩
  obtain ⟨v, h1, h2⟩ := t.at hy
  refine ⟨⟨xs, v, hq, h1⟩, fun x H' yl => ?_⟩
  obtain ⟨rfl, f⟩ := yl
  have ex : x = v := Option.some.inj ((f xs hq).symm.trans h1)
  subst ex
  exact ⟨G1, Gr.refl s, h2.up e⟩
theorem runs_tup {G : Hp} {l : Addr} {xs : List V} (h : SqT W.K G l xs) (t : DtAll W.K G xs ds) : Runs W (Itt W.K l) G ds := fun G1 H1 e s => by
  have hq : SqT W.K H1 l xs := sqt_up s (sqt_up e h)
  refine ⟨fun i y hy => ?_, xs, hq, by rw [t.length]; exact Nat.le_refl _⟩
  obtain ⟨v, h1, h2⟩ := t.at hy
  refine ⟨⟨xs, v, hq, h1⟩, fun x H' yl => ?_⟩
  obtain ⟨rfl, f⟩ := yl
  have ex : x = v := Option.some.inj ((f xs hq).symm.trans h1)
  subst ex
  exact ⟨G1, Gr.refl s, h2.up e⟩
theorem ix_lst (fm : Fm W k F) (h : EX W F e Γ (.list ds)) : IX W F tg e Γ ds :=
  .of (t := iList W.K (TEw F e)) (fun i => by rw [← fm.K i]; exact pi_list (pe_w i)) fun σ G H en R q => h σ G H en _ fun v G1 H1 g1 d1 => by
    obtain ⟨l, xs, rfl, h1, h2⟩ := dp_lst d1
    exact ⟨l, rfl, ⟨xs, SqL.of (g1.sub _ _ h1)⟩, q _ G1 H1 g1 (runs_list h1 h2)⟩
theorem ix_tp (fm : Fm W k F) (h : EX W F e Γ (.tuple ds)) : IX W F tg e Γ ds :=
  .of (t := iTup W.K (TEw F e)) (fun i => by rw [← fm.K i]; exact pi_tup (pe_w i)) fun σ G H en R q => h σ G H en _ fun v G1 H1 g1 d1 => by
    obtain ⟨l, xs, rfl, h1, h2⟩ := dp_tup d1
    exact ⟨l, rfl, ⟨xs, sqt_up g1.sub h1⟩, q _ G1 H1 g1 (runs_tup h1 h2)⟩
def rngD (n : Int) (t : Nat) : List PyData := (List.range t).map fun (j : Nat) => PyData.int (n + j)
theorem runs_rng {G : Hp} {t : Nat} : Runs W (Itr n t) G (rngD n t) := fun G1 H1 e s => by
  refine ⟨fun i y hy => ?_, by show (rngD n t).length ≥ t; unfold rngD; simp⟩
  unfold rngD at hy
  rw [List.getElem?_map] at hy
  obtain ⟨j, hj, rfl⟩ := Option.map_eq_some_iff.mp hy
  obtain ⟨h1, h2⟩ := List.getElem?_eq_some_iff.mp hj
  rw [List.getElem_range] at h2
  subst h2
  refine ⟨by (show i < t); simpa using h1, fun x H' yl => ?_⟩
  obtain ⟨rfl, rfl⟩ := yl
  exact ⟨G1, Gr.refl s, .int _⟩
theorem ix_rng1 (fm : Fm W k F) (hg : ∀ j, Gl (F j) "range") (hm : W.mg "range" = none) (ha : EX W F a Γ (.int m)) (h0 : -(2 ^ 62) ≤ m := by omega) (h1 : m < 2 ^ 62 := by omega)
    (hs : ∀ j, starEach [a] (F j).env = [(false, eval a (F j).env)] := by exact fun _ => rfl) : IX W F tg (.Call (.Name "range" p) [a] [] pos) Γ (rngD 0 m.toNat) :=
  .of (fun j => pi_range1 (hg j) (by rw [fm.mg j]; exact hm) (pa_w (es := [a]) j) (hs j)) fun σ G H en R q => by
    have ea : EA W F [a] Γ [.int m] := ea_cons ha ea_nil fun j => by rw [hs j]; rfl
    exact ea σ G H en _ fun vs G1 H1 g1 d1 => by
      obtain ⟨v, rfl, hv⟩ := dtAll1 d1
      cases dp_int hv
      exact ⟨m, rfl, h0, h1, q _ G1 H1 g1 runs_rng⟩

/-! ### targets -/
inductive Tg where
  | nm (i : Nat)
  | tp (is : List Nat)
def setAll (Γ : SC) : List Nat → List PyData → SC
  | i :: is, y :: ys => setAll (Γ.set i (.im y)) is ys
  | _, _ => Γ
def Tg.put (Γ : SC) : Tg → PyData → SC
  | .nm i, y => Γ.set i (.im y)
  | .tp is, .tuple ys => setAll Γ is ys
  | .tp _, _ => Γ
def Tg.fits : Tg → PyData → Prop
  | .nm _, _ => True
  | .tp is, .tuple ys => ys.length = is.length
  | .tp _, _ => False
def Tg.is : Tg → List Nat
  | .nm i => [i]
  | .tp is => is
def gsOf : List Nat → TGs
  | [] => gNil
  | i :: is => gCons (gName i) (gsOf is)
def gOf (K : PySem.W.Frag) : Tg → TG
  | .nm i => gName i
  | .tp is => gTup K is.length (gsOf is)
def PGX (W : Wd) (F : ι → Cx) (tg : Expr) (T : Tg) : Prop := ∀ j, PG (F j) tg (gOf W.K T)
def PGsX (F : ι → Cx) (tgs : List Expr) (is : List Nat) : Prop := ∀ j, PGs (F j) tgs (gsOf is)
theorem pgx_nm {nm : Str} (i : Nat) (fm : Fm W k F) (hi : ∀ j, (F j).N[i]? = some nm) (hx : ∀ j, Loc (F j).env.scope nm) (hf : ∀ j, (F j).fn nm = true ∨ (F j).env.scope.names.lookup nm = some .local) : PGX W F (.Name nm pos) (.nm i) :=
  fun j => pg_name (fm.nd j) (hi j) (hx j) (hf j)
theorem pgsx_nil : PGsX F [] [] := fun _ => pgs_nil
theorem pgsx_cons {nm : Str} {is : List Nat} (i : Nat) (fm : Fm W k F) (hi : ∀ j, (F j).N[i]? = some nm) (hx : ∀ j, Loc (F j).env.scope nm) (hf : ∀ j, (F j).fn nm = true ∨ (F j).env.scope.names.lookup nm = some .local) (h : PGsX F es is)
    (hs : ∀ j, (assignEach (.Name nm pos :: es) (F j).env).map (·.2) = assign (.Name nm pos) (F j).env :: (assignEach es (F j).env).map (·.2) := by exact fun _ => rfl) : PGsX F (.Name nm pos :: es) (i :: is) :=
  fun j => pgs_cons (pg_name (fm.nd j) (hi j) (hx j) (hf j)) (h j) (hs j)
theorem pgx_tp {is : List Nat} {kk : Nat} (fm : Fm W k F) (h : PGsX F es is) (hn : ∀ j, (assignEach es (F j).env).length = is.length := by exact fun _ => rfl) (hst : ∀ j, (assignEach es (F j).env).findIdx? (·.1) = none := by exact fun _ => rfl) : PGX W F (.Tuple es kk pos) (.tp is) :=
  fun j => by
    have := pg_tup (pos := pos) (k := kk) (fm.calm j) (h j) (hn j) (hst j)
    rw [fm.K j] at this
    exact this
theorem own_set_im {σ : L2.St} {v : V} {i : Nat} {l : Addr} (h : Own (σ.set i (some v)) (Γ.set i (.im d)) l) : Own σ Γ l := by
  obtain ⟨j, s, h1, h2, h3⟩ := h
  by_cases hj : i = j
  · subst hj
    by_cases hi : i < Γ.length
    · rw [List.getElem?_set_self hi] at h1
      cases h1
      cases h2
    · rw [List.getElem?_eq_none (by simpa using hi)] at h1
      cases h1
  · rw [List.getElem?_set_ne hj] at h1 h3
    exact ⟨j, s, h1, h2, h3⟩
theorem gs_put {G H : Hp} : ∀ {is : List Nat} {ys : List PyData} {vs : List V} {σ : L2.St} {Γ : SC} {Q : L2.St → Hp → Prop}, Nv W G H σ Γ → DtAll W.K G vs ys → ys.length = is.length →
    (∀ σ', Nv W G H σ' (setAll Γ is ys) → (∀ ws : List Nat, (∀ i ∈ is, i ∈ ws) → L2.wipe σ' ws = L2.wipe σ ws) → (∀ l, Own σ' (setAll Γ is ys) l → Own σ Γ l) → Q σ' H) → gsOf is vs σ H Q
  | [], [], _, σ, Γ, Q, en, h, _, q => by
    cases h
    exact ⟨rfl, q σ en (fun _ _ => rfl) fun _ o => o⟩
  | [], _ :: _, _, _, _, _, _, _, e, _ => by simp at e
  | _ :: _, [], _, _, _, _, _, _, e, _ => by simp at e
  | i :: is, y :: ys, _, σ, Γ, Q, en, h, e, q => by
    cases h with
    | cons h1 h2 =>
      refine ⟨_, _, rfl, ?_⟩
      refine gs_put (en.setIm i h1) h2 (by simpa using e) fun σ' en' w o => q σ' en' (fun ws hw => ?_) fun l ol => own_set_im (o l ol)
      rw [w ws fun j hj => hw j (List.mem_cons_of_mem _ hj), wipe_set (hw i (List.mem_cons_self ..))]
theorem g_put {G H : Hp} {T : Tg} {v : V} {σ : L2.St} {Q : L2.St → Hp → Prop} (en : Nv W G H σ Γ) (h : Dt W.K G v y) (f : T.fits y)
    (q : ∀ σ', Nv W G H σ' (T.put Γ y) → (∀ ws : List Nat, (∀ i ∈ T.is, i ∈ ws) → L2.wipe σ' ws = L2.wipe σ ws) → (∀ l, Own σ' (T.put Γ y) l → Own σ Γ l) → Q σ' H) : gOf W.K T v σ H Q := by
  cases T with
  | nm i => exact q _ (en.setIm i h) (fun ws hw => wipe_set (hw i (List.mem_cons_self ..))) fun l o => own_set_im o
  | tp is =>
    cases y with
    | tuple ys =>
      obtain ⟨l, xs, rfl, h1, h2⟩ := dp_tup h
      have f' : ys.length = is.length := f
      exact ⟨l, xs, rfl, sqt_up en.sub h1, by rw [h2.length]; exact f', gs_put en h2 f' q⟩
    | _ => exact f.elim

/-! ### list comprehensions -/
def TTsw (F : ι → Cx) : List Expr → TT
  | [c] => TTw F c
  | _ => tYes
inductive Ifs (W : Wd) (F : ι → Cx) : List Expr → SC → Bool → Prop where
  | nil {Γ : SC} : Ifs W F [] Γ true
  | one {c : Expr} {Γ : SC} {b : Bool} (h : EB W F c Γ b) : Ifs W F [c] Γ b
theorem Ifs.ev {ifs : List Expr} {Γ : SC} {b : Bool} (h : Ifs W F ifs Γ b) : EvB W (TTsw F ifs) Γ b := by
  cases h with
  | nil => exact fun σ G H en Q q => q G H en.refl
  | one h => exact h
theorem Ifs.pt {ifs : List Expr} (h : ifs.length ≤ 1) (j : ι) : PTs (F j) ifs (TTsw F ifs) := by
  match ifs, h with
  | [], _ => exact pts_nil
  | [c], _ => exact pts_one (pt_w j)
theorem evl_lc {α : Type} {xs : List α} {enc : α → PyData} {pr : α → Bool} {f : α → PyData} {T : Tg} {t : TI} {tt : TT} {te : TE} {vs : List Nat} (hi : EvI W t Γ (xs.map enc)) (hT : ∀ i ∈ T.is, i ∈ vs) (fits : ∀ u ∈ xs, T.fits (enc u))
    (ht : ∀ u ∈ xs, EvB W tt (T.put (wipeC Γ vs) (enc u)) (pr u)) (he : ∀ u ∈ xs, pr u = true → EvD W te (T.put (wipeC Γ vs) (enc u)) (f u)) (hz : xs.length ≤ sizeLine) :
    EvL W (tLc t (gOf W.K T) tt te vs) Γ ((xs.filter pr).map f) := fun σ G H en Q q => hi σ G H en _ fun J G1 H1 g1 ru D hD => by
  refine ⟨fun i m H' => m = xs.length - i ∧ i ≤ xs.length ∧ ∃ G' acc, Gr G1 H1 G' H' ∧ G' D = none ∧ H' D = some (.lst acc) ∧ DtAll W.K G' acc (((xs.take i).filter pr).map f), ⟨_, rfl, Nat.zero_le _, G1, [], Gr.own g1.sub hD, g1.sub.free hD, upd_same, .nil⟩, ?_⟩
  rintro i m H' ⟨rfl, hi, G', acc, g, nD, hD', da⟩
  obtain ⟨go, st⟩ := ru G' H' g.up g.sub
  by_cases hlt : i < xs.length
  · have hx : xs[i]? = some xs[i] := List.getElem?_eq_getElem hlt
    have hmem : xs[i] ∈ xs := List.getElem_mem hlt
    obtain ⟨g0, gy⟩ := go i (enc xs[i]) (by rw [List.getElem?_map, hx]; rfl)
    refine .inr ⟨g0, fun H'' => ∃ G'' acc', Gr G1 H1 G'' H'' ∧ G'' D = none ∧ H'' D = some (.lst acc') ∧ DtAll W.K G'' acc' (((xs.take (i + 1)).filter pr).map f), fun H'' n => ⟨xs.length - (i + 1), by omega, rfl, hlt, n⟩, fun v H2 yl => ?_⟩
    obtain ⟨G2, g2, dv⟩ := gy v H2 yl
    have en2 : Nv W G2 H2 (L2.wipe σ vs) (wipeC Γ vs) := ((((en.gr g1).gr g).gr g2).wipe vs)
    have n2 : G2 D = none := gr_free g2 nD hD'
    have k2 : H2 D = some (.lst acc) := g2.same _ _ hD'
    have etk : (xs.take (i + 1)).filter pr = (xs.take i).filter pr ++ (if pr xs[i] = true then [xs[i]] else []) := by
      rw [List.take_add_one, hx, List.filter_append]
      congr 1
      show List.filter pr [xs[i]] = _
      rw [List.filter_cons, List.filter_nil]
    refine g_put en2 dv (fits _ hmem) fun σ' en3 w _ => ⟨(w vs hT).trans wipe_idem, ?_⟩
    refine ht _ hmem σ' G2 H2 en3 _ fun G3 H3 g3 => ?_
    have n3 : G3 D = none := gr_free g3 n2 k2
    have k3 : H3 D = some (.lst acc) := g3.same _ _ k2
    by_cases hp : pr xs[i] = true
    · rw [if_pos hp]
      refine he _ hmem hp σ' G3 H3 (en3.gr g3) _ fun y G4 H4 g4 d4 => ?_
      have n4 : G4 D = none := gr_free g4 n3 k3
      have k4 : H4 D = some (.lst acc) := g4.same _ _ k3
      have gg := ((g.trans g2).trans g3).trans g4
      have hl : acc.length ≤ i := by
        rw [da.length, List.length_map]
        exact Nat.le_trans (List.length_filter_le _ _) (by rw [List.length_take]; exact Nat.min_le_left _ _)
      refine ⟨acc, k4, by omega, G4, acc ++ [y], ⟨fun b o h => ?_, gg.up, fun b o h => ?_, gg.new⟩, n4, upd_same, ?_⟩
      · rw [upd_ne (ne_of_none h hD)]; exact gg.same b o h
      · rw [upd_ne (ne_of_none h n4)]; exact gg.sub b o h
      · rw [etk, if_pos hp, List.map_append]
        exact (((da.up g2.up).up g3.up).up g4.up).app (.cons d4 .nil)
    · rw [if_neg hp]
      refine ⟨G3, acc, (g.trans g2).trans g3, n3, k3, ?_⟩
      rw [etk, if_neg hp, List.append_nil]
      exact (da.up g2.up).up g3.up
  · have e : i = xs.length := by omega
    subst e
    rw [List.length_map] at st
    rw [List.take_length] at da
    exact .inl ⟨st, q D acc G' H' (g1.same.free hD) (g1.trans g) nD hD' da⟩
theorem el_lc {α : Type} {scope : Scope} {ifs : List Expr} (own : List (Str × Nat)) (T : Tg) (xs : List α) (enc : α → PyData) (pr : α → Bool) (f : α → PyData) (fm : Fm W k F)
    (hi : IX W F tg iter Γ (xs.map enc)) (ok : ∀ j, BlkOk (F j).N (F j).env.scope scope own) (hg : PGX W (blkF F scope) tg T) (hT : ∀ i ∈ T.is, i ∈ own.map (·.2)) (fits : ∀ u ∈ xs, T.fits (enc u))
    (ht : ∀ u ∈ xs, Ifs W (blkF F scope) ifs (T.put (wipeC Γ (own.map (·.2))) (enc u)) (pr u)) (he : ∀ u ∈ xs, pr u = true → EX W (blkF F scope) elt (T.put (wipeC Γ (own.map (·.2))) (enc u)) (f u)) (hz : xs.length ≤ sizeLine) (hif : ifs.length ≤ 1 := by decide)
    (hs : ∀ j x, foldedSetIterable iter (F j).env x = pure x := by exact fun _ _ => rfl) : EL W F (.ListComp elt [⟨tg, iter, ifs, 0⟩] scope pos) Γ ((xs.filter pr).map f) :=
  .of (t := tLc (TIw F tg iter) (gOf W.K T) (TTsw (blkF F scope) ifs) (TEw (blkF F scope) elt) (own.map (·.2)))
    (fun j => pe_lc (fm.calm j) (fm.nd j) (pi_w j) (ok j) (fun s H C cl fp => hg (j, s, H, C, cl, fp)) (fun s H C cl fp => Ifs.pt (F := blkF F scope) hif (j, s, H, C, cl, fp)) (fun s H C cl fp => pe_w (F := blkF F scope) (j, s, H, C, cl, fp)) (hs j))
    (evl_lc (vs := own.map (·.2)) hi hT fits (fun u hu => (ht u hu).ev) he hz)
end
end TW
/-! Part 4: statements, blocks, loops, defs. -/
namespace TW
open PySem PySem.Spec PyProof.Rows L2

/-- what changes: the owned objects ms may be written, may become known -/
structure Mr (ms : Addr → Prop) (G H G' H' : Hp) : Prop where
  same : ∀ b o, H b = some o → ¬ ms b → H' b = some o
  up : Same G G'
  sub : Same G' H'
  new : ∀ b, G b = none → G' b ≠ none → H b = none ∨ ms b
  free : ∀ b, H' b = none → H b = none
section
variable {G H G1 H1 G2 H2 : Hp} {ms ms1 : Addr → Prop}
theorem Gr.mr (g : Gr G H G1 H1) : Mr ms G H G1 H1 := ⟨fun b o e _ => g.same b o e, g.up, g.sub, fun b e n => .inl (g.new b e n), fun _ e => g.same.free e⟩
theorem Mr.refl (h : Same G H) : Mr ms G H G H := (Gr.refl h).mr
theorem Mr.trans (a : Mr ms G H G1 H1) (b : Mr ms1 G1 H1 G2 H2) (f : ∀ l, ms1 l → ms l ∨ H l = none) : Mr ms G H G2 H2 := by
  refine ⟨fun c o e n => b.same c o (a.same c o e n) fun z => ?_, a.up.trans b.up, b.sub, fun c e n => ?_, fun c e => a.free c (b.free c e)⟩
  · rcases f c z with q | q
    · exact n q
    · rw [e] at q; cases q
  · by_cases h : G1 c = none
    · rcases b.new c h n with q | q
      · exact .inl (a.free c q)
      · exact (f c q).symm
    · exact a.new c e h
theorem Mr.gr (a : Mr ms G H G1 H1) (h : ∀ l, ms l → H l = none) : Gr G H G1 H1 :=
  ⟨fun b o e => a.same b o e fun z => (by rw [h b z] at e; cases e), a.up, a.sub, fun b e n => (a.new b e n).elim id (h b)⟩
end

inductive Out where
  | nx (Γ : SC)
  | rt (d : PyData)
  | rl (ds : List PyData)
  | rk (kvs : List (PyData × PyData))
def Post (W : Wd) (D : Ends) (σ : L2.St) (Γ : SC) (G H : Hp) : Out → Prop
  | .nx Γ' => ∀ σ' G' H', Mr (Own σ Γ) G H G' H' → Nv W G' H' σ' Γ' → (∀ l, Own σ' Γ' l → Own σ Γ l ∨ H l = none) → D.nx σ' H'
  | .rt d => ∀ v G' H', Mr (Own σ Γ) G H G' H' → Dt W.K G' v d → D.rt v H'
  | .rl ds => ∀ l vs G' H', H l = none → Mr (Own σ Γ) G H G' H' → G' l = none → H' l = some (.lst vs) → DtAll W.K G' vs ds → D.rt (.ref l) H'
  | .rk kvs => ∀ l G' H', (Own σ Γ l ∨ H l = none) → Mr (Own σ Γ) G H G' H' → G' l = none → ND W G' H' l kvs → D.rt (.ref l) H'
def ExS (W : Wd) (t : TS) (Γ : SC) (o : Out) : Prop := ∀ σ G H, Nv W G H σ Γ → ∀ D : Ends, Post W D σ Γ G H o → t D σ H
section
variable {ι : Type} {W : Wd} {F : ι → Cx} {k : Nat} {Γ Γ1 Γ2 : SC} {a b e tg iter elt : Expr} {es : List Expr} {st : Stmt} {sts els : List Stmt} {x y z d : PyData} {ds ys : List PyData} {pos p pos2 : Pos} {n m : Int} {c : Bool} {o : Out} {t u : TS}
def SX (W : Wd) (F : ι → Cx) (st : Stmt) (Γ : SC) (o : Out) : Prop := ExS W (TSw F st) Γ o
def BX (W : Wd) (F : ι → Cx) (sts : List Stmt) (Γ : SC) (o : Out) : Prop := ExS W (TSsw F sts) Γ o
theorem SX.of (h : ∀ i, PS (F i) st t) (ev : ExS W t Γ o) : SX W F st Γ o := fun σ G H en D q i pins s I => (h i).run pins s σ H D I (ev σ G H en D q)
theorem BX.of (h : ∀ i, PSs (F i) sts t) (ev : ExS W t Γ o) : BX W F sts Γ o := fun σ G H en D q i pins s I => (h i).run pins s σ H D I (ev σ G H en D q)
theorem BX.is {o' : Out} (h : BX W F sts Γ o) (q : o = o') : BX W F sts Γ o' := q ▸ h
theorem SX.is {o' : Out} (h : SX W F st Γ o) (q : o = o') : SX W F st Γ o' := q ▸ h
/-- behind a step -/
theorem Post.after {D : Ends} {σ σ1 : L2.St} {G H G1 H1 : Hp} (q : Post W D σ Γ G H o) (m : Mr (Own σ Γ) G H G1 H1) (f : ∀ l, Own σ1 Γ1 l → Own σ Γ l ∨ H l = none) : Post W D σ1 Γ1 G1 H1 o := by
  cases o with
  | nx Γ' => exact fun σ' G' H' m' en' f' => q σ' G' H' (m.trans m' f) en' fun l ol => (f' l ol).elim (f l) fun e => .inr (m.free l e)
  | rt d => exact fun v G' H' m' dv => q v G' H' (m.trans m' f) dv
  | rl ds => exact fun l vs G' H' h0 m' h1 h2 dv => q l vs G' H' (m.free l h0) (m.trans m' f) h1 h2 dv
  | rk kvs => exact fun l G' H' h0 m' h1 h2 => q l G' H' (h0.elim (f l) fun e => .inr (m.free l e)) (m.trans m' f) h1 h2
theorem Post.ends {D D' : Ends} {σ : L2.St} {G H : Hp} (q : Post W D σ Γ G H o) (hn : D.nx = D'.nx) (hr : D.rt = D'.rt) : Post W D' σ Γ G H o := by
  cases o with
  | nx Γ' => intro σ' G' H' m en f; rw [← hn]; exact q σ' G' H' m en f
  | rt d => intro v G' H' m dv; rw [← hr]; exact q v G' H' m dv
  | rl ds => intro l vs G' H' h0 m h1 h2 dv; rw [← hr]; exact q l vs G' H' h0 m h1 h2 dv
  | rk kvs => intro l G' H' h0 m h1 h2; rw [← hr]; exact q l G' H' h0 m h1 h2
/-! ### blocks -/
theorem bx_nil : BX W F [] Γ (.nx Γ) := .of (fun _ => pss_nil) fun σ G H en D q => q σ G H (Mr.refl en.sub) en fun l h => .inl h
theorem bx_cons (h1 : SX W F st Γ (.nx Γ1)) (h2 : BX W F sts Γ1 o) : BX W F (st :: sts) Γ o :=
  .of (fun j => pss_cons (ps_w j) (pss_w j)) fun σ G H en D q => h1 σ G H en { D with nx := TSsw F sts D } fun σ1 G1 H1 m1 en1 f1 => h2 σ1 G1 H1 en1 D (q.after m1 f1)
theorem bx_end (h1 : SX W F st Γ (.rt d)) : BX W F (st :: sts) Γ (.rt d) :=
  .of (fun j => pss_cons (ps_w j) (pss_w j)) fun σ G H en D q => h1 σ G H en { D with nx := TSsw F sts D } q
theorem bx_endL (h1 : SX W F st Γ (.rl ds)) : BX W F (st :: sts) Γ (.rl ds) :=
  .of (fun j => pss_cons (ps_w j) (pss_w j)) fun σ G H en D q => h1 σ G H en { D with nx := TSsw F sts D } q
theorem bx_one (h1 : SX W F st Γ o) : BX W F [st] Γ o := .of (fun j => pss_one (ps_w j)) h1
/-- what is known is forgotten in part -/
inductive Wk : SC → SC → Prop
  | nil : Wk [] []
  | same {s : Slot} {Γ1 Γ2 : SC} : Wk Γ1 Γ2 → Wk (s :: Γ1) (s :: Γ2)
  | un {s : Slot} {Γ1 Γ2 : SC} : Wk Γ1 Γ2 → Wk (.un :: Γ1) (s :: Γ2)
theorem Wk.refl : ∀ Γ : SC, Wk Γ Γ
  | [] => .nil
  | _ :: Γ => .same (Wk.refl Γ)
theorem Wk.len {Γ1 Γ2 : SC} (h : Wk Γ1 Γ2) : Γ1.length = Γ2.length := by induction h <;> simp_all
theorem Wk.at {Γ1 Γ2 : SC} (h : Wk Γ1 Γ2) : ∀ (i : Nat) (s : Slot), Γ1[i]? = some s → s = .un ∨ Γ2[i]? = some s := by
  induction h with
  | nil => intro i s e; simp at e
  | same _ ih => intro i s e; cases i with
    | zero => exact .inr e
    | succ i => exact ih i s (by simpa using e)
  | un _ ih => intro i s e; cases i with
    | zero => simp at e; exact .inl e.symm
    | succ i => exact ih i s (by simpa using e)
theorem Nv.wk {G H : Hp} {σ : L2.St} (en : Nv W G H σ Γ2) (h : Wk Γ1 Γ2) : Nv W G H σ Γ1 := by
  refine ⟨en.sub, en.len.trans h.len.symm, fun i s e n => ?_, fun i j s t l hij e1 e2 p1 p2 => ?_⟩
  · rcases h.at i s e with q | q
    · exact absurd q n
    · exact en.at' i s q n
  · rcases h.at i s e1 with q | q
    · subst q; cases p1
    · rcases h.at j t e2 with r | r
      · subst r; cases p2
      · exact en.apart i j s t l hij q r p1 p2
theorem Own.wk {σ : L2.St} {l : Addr} (h : Wk Γ1 Γ2) (q : Own σ Γ1 l) : Own σ Γ2 l := by
  obtain ⟨i, s, e, ow, q⟩ := q
  rcases h.at i s e with r | r
  · subst r; cases ow
  · exact ⟨i, s, r, ow, q⟩
theorem bx_wk (h : BX W F sts Γ (.nx Γ2)) (w : Wk Γ1 Γ2) : BX W F sts Γ (.nx Γ1) := fun σ G H en D q => h σ G H en D fun σ' G' H' m en' f => q σ' G' H' m (en'.wk w) fun l ol => f l (Own.wk w ol)
theorem sx_wk (h : SX W F st Γ (.nx Γ2)) (w : Wk Γ1 Γ2) : SX W F st Γ (.nx Γ1) := fun σ G H en D q => h σ G H en D fun σ' G' H' m en' f => q σ' G' H' m (en'.wk w) fun l ol => f l (Own.wk w ol)
/-- an owned list is known from now on -/
theorem Nv.freeze {G H : Hp} {σ : L2.St} {i : Nat} (en : Nv W G H σ Γ) (h : Γ[i]? = some (.mu ds)) : ∃ G', Mr (Own σ Γ) G H G' H ∧ Nv W G' H σ (Γ.set i (.im (.list ds))) ∧ (∀ l, Own σ (Γ.set i (.im (.list ds))) l → Own σ Γ l) := by
  obtain ⟨l, vs, e1, e2, e3, e4⟩ := en.mu h
  have hi : i < Γ.length := (List.getElem?_eq_some_iff.mp h).1
  have up : Same G (upd G l (.lst vs)) := same_laid e3
  have sub : Same (upd G l (.lst vs)) H := fun b u q => by
    by_cases hb : b = l
    · subst hb; rw [upd_same] at q; cases q; exact e2
    · rw [upd_ne hb] at q; exact en.sub b u q
  have so : ∀ {v : V} {s : Slot} {j : Nat}, j ≠ i → Γ[j]? = some s → σ[j]? = some (some v) → SlotOk W G H v s → SlotOk W (upd G l (.lst vs)) H v s := fun {v s j} hj hs hv q => by
    have ap : ∀ l', s.ptr = true → v = .ref l' → l' ≠ l := fun l' hp hv' z => by
      subst z
      exact en.apart i j (.mu ds) s l' (fun z => hj z.symm) h hs rfl hp e1 (by rw [hv, hv'])
    cases s with
    | un => trivial
    | im d => exact Dt.up q up
    | mu es =>
      obtain ⟨l', ws, rfl, q1, q2, q3⟩ := q
      exact ⟨l', ws, rfl, q1, by rw [upd_ne (ap l' rfl rfl)]; exact q2, q3.up up⟩
    | dk kvs =>
      obtain ⟨d', rfl, q1, q2⟩ := q
      exact ⟨d', rfl, by rw [upd_ne (ap d' rfl rfl)]; exact q1, q2.up up fun _ z => z⟩
    | dr kvs =>
      obtain ⟨d', rfl, q2⟩ := q
      exact ⟨d', rfl, q2.up up fun _ z => z⟩
    | sq ns => obtain ⟨a, rfl, q⟩ := q; exact ⟨a, rfl, sql_up up q⟩
  have at1 : ∀ {j : Nat} {s : Slot}, (Γ.set i (.im (.list ds)))[j]? = some s → (j = i ∧ s = .im (.list ds)) ∨ (j ≠ i ∧ Γ[j]? = some s) := fun {j s} q => by
    by_cases hj : i = j
    · subst hj
      rw [List.getElem?_set_self hi] at q
      exact .inl ⟨rfl, (Option.some.inj q).symm⟩
    · rw [List.getElem?_set_ne hj] at q
      exact .inr ⟨fun z => hj z.symm, q⟩
  refine ⟨upd G l (.lst vs), ⟨fun _ _ q _ => q, up, sub, fun b q r => ?_, fun _ q => q⟩, ⟨sub, by simpa using en.len, fun j s q r => ?_, fun j j' s s' l' hjj q1 q2 p1 p2 => ?_⟩, fun l' q => ?_⟩
  · by_cases hb : b = l
    · subst hb; exact .inr ⟨i, _, h, rfl, e1⟩
    · rw [upd_ne hb] at r; exact absurd q r
  · rcases at1 q with ⟨rfl, rfl⟩ | ⟨hj, q⟩
    · exact ⟨_, e1, .lst upd_same (e4.up up)⟩
    · obtain ⟨v, r1, r2⟩ := en.at' j s q r
      exact ⟨v, r1, so hj q r1 r2⟩
  · rcases at1 q1 with ⟨rfl, rfl⟩ | ⟨_, q1⟩
    · cases p1
    · rcases at1 q2 with ⟨rfl, rfl⟩ | ⟨_, q2⟩
      · cases p2
      · exact en.apart j j' s s' l' hjj q1 q2 p1 p2
  · obtain ⟨j, s, q1, q2, q3⟩ := q
    rcases at1 q1 with ⟨rfl, rfl⟩ | ⟨_, q1⟩
    · cases q2
    · exact ⟨j, s, q1, q2, q3⟩
theorem bx_freeze (i : Nat) (h : Γ[i]? = some (.mu ds)) (q : BX W F sts (Γ.set i (.im (.list ds))) o) : BX W F sts Γ o := fun σ G H en D r => by
  obtain ⟨G', m, en', ow⟩ := en.freeze h
  exact q σ G' H en' D (r.after m fun l ol => .inl (ow l ol))
/-- an owned list is read: the value is flat -/
def flatD : PyData → Bool
  | .none => true
  | .bool _ => true
  | .int _ => true
  | .str _ => true
  | _ => false
theorem flat_dt {K : PySem.W.Frag} {G G' : Hp} {v : V} (h : flatD d = true) (q : Dt K G v d) : Dt K G' v d := by
  cases q with
  | non => exact .non
  | bl b => exact .bl b
  | int i => exact .int i
  | str x => exact .str x
  | lst _ _ => cases h
  | tup _ _ => cases h
theorem ex_thaw (i : Nat) (h : Γ[i]? = some (.mu ds)) (hd : flatD d = true) (q : EX W F e (Γ.set i (.im (.list ds))) d) : EX W F e Γ d := fun σ G H en Q r => by
  obtain ⟨G1, m, en', _⟩ := en.freeze h
  exact q σ G1 H en' Q fun v G' H' g dv => r v G H' ⟨g.same, Same.refl _, (m.up.trans g.up).trans g.sub, fun b e n => absurd e n⟩ (flat_dt hd dv)
theorem eb_thaw (i : Nat) (h : Γ[i]? = some (.mu ds)) (q : EB W F e (Γ.set i (.im (.list ds))) c) : EB W F e Γ c := fun σ G H en Q r => by
  obtain ⟨G1, m, en', _⟩ := en.freeze h
  exact q σ G1 H en' Q fun G' H' g => r G H' ⟨g.same, Same.refl _, (m.up.trans g.up).trans g.sub, fun b e n => absurd e n⟩

/-! ### small statements -/
theorem sx_ret (h : EX W F e Γ d) : SX W F (.Return (some e) pos) Γ (.rt d) := .of (fun j => ps_ret (pe_w j)) fun σ G H en D q => h σ G H en _ fun v G' H' g dv => q v G' H' g.mr dv
theorem sx_retL (h : EL W F e Γ ds) : SX W F (.Return (some e) pos) Γ (.rl ds) := .of (fun j => ps_ret (pe_w j)) fun σ G H en D q => h σ G H en _ fun l vs G' H' h0 g h1 h2 dv => q l vs G' H' h0 g.mr h1 h2 dv
theorem sx_ifT (hc : EB W F e Γ true) (h : BX W F sts Γ o) : SX W F (.If e sts els pos) Γ o := .of (fun j => ps_if (pt_w j) (pss_w j) (pss_w j)) fun σ G H en D q => hc σ G H en _ fun G1 H1 g1 => by
  show (if true = true then _ else _)
  rw [if_pos rfl]
  exact h σ G1 H1 (en.gr g1) D (q.after g1.mr fun l ol => .inl ol)
theorem sx_ifF (hc : EB W F e Γ false) (h : BX W F els Γ o) : SX W F (.If e sts els pos) Γ o := .of (fun j => ps_if (pt_w j) (pss_w j) (pss_w j)) fun σ G H en D q => hc σ G H en _ fun G1 H1 g1 => by
  show (if false = true then _ else _)
  rw [if_neg Bool.false_ne_true]
  exact h σ G1 H1 (en.gr g1) D (q.after g1.mr fun l ol => .inl ol)
theorem sx_if (hc : EB W F e Γ c) (h1 : c = true → BX W F sts Γ o) (h2 : c = false → BX W F els Γ o) : SX W F (.If e sts els pos) Γ o := by
  cases c with
  | true => exact sx_ifT hc (h1 rfl)
  | false => exact sx_ifF hc (h2 rfl)
/-- if ..: return .. ; the rest -/
theorem bx_ifr {rest : List Stmt} (hc : EB W F e Γ c) (h1 : c = true → BX W F sts Γ (.rt d)) (h2 : c = false → BX W F rest Γ (.rt d)) : BX W F (.If e sts [] pos :: rest) Γ (.rt d) := by
  cases c with
  | true => exact bx_end (sx_ifT hc (h1 rfl))
  | false => exact bx_cons (sx_ifF hc bx_nil) (h2 rfl)
theorem own_set {σ : L2.St} {v : V} {i : Nat} {s : Slot} {l : Addr} (h : Own (σ.set i (some v)) (Γ.set i s) l) : Own σ Γ l ∨ (s.own = true ∧ v = .ref l) := by
  obtain ⟨j, t, h1, h2, h3⟩ := h
  by_cases hj : i = j
  · subst hj
    by_cases hi : i < Γ.length
    · rw [List.getElem?_set_self hi] at h1
      cases h1
      by_cases hs : i < σ.length
      · rw [List.getElem?_set_self hs] at h3
        exact .inr ⟨h2, Option.some.inj (Option.some.inj h3)⟩
      · rw [List.getElem?_eq_none (by simpa using hs)] at h3
        cases h3
    · rw [List.getElem?_eq_none (by simpa using hi)] at h1
      cases h1
  · rw [List.getElem?_set_ne hj] at h1 h3
    exact .inl ⟨j, t, h1, h2, h3⟩
/-- name = data -/
theorem sx_set {nm : Str} (i : Nat) (fm : Fm W k F) (hi : ∀ j, (F j).N[i]? = some nm) (hx : ∀ j, Loc (F j).env.scope nm) (hf : ∀ j, (F j).fn nm = true ∨ (F j).env.scope.names.lookup nm = some .local) (h : EX W F e Γ d)
    (hs : ∀ j, swapsWith e (some (.Name nm p)) pos.line (F j).env = pure false := by exact fun _ => rfl) : SX W F (.Assign [.Name nm p] e pos) Γ (.nx (Γ.set i (.im d))) :=
  .of (fun j => ps_set (fm.nd j) (hi j) (hx j) (pe_w j) (hs j) (hf j)) fun σ G H en D q => h σ G H en _ fun v G' H' g dv => q _ G' H' g.mr ((en.gr g).setIm i dv) fun l ol => .inl (own_set_im ol)
/-- name = a new list, to be changed -/
theorem Nv.setNew {G H G' H' : Hp} {σ : L2.St} {l : Addr} {vs : List V} (en : Nv W G H σ Γ) (i : Nat) (h0 : H l = none) (g : Gr G H G' H') (h1 : G' l = none) (h2 : H' l = some (.lst vs)) (dv : DtAll W.K G' vs ds) : Nv W G' H' (σ.set i (some (.ref l))) (Γ.set i (.mu ds)) := by
  refine (en.gr g).set ⟨l, vs, rfl, h2, h1, dv⟩ fun _ l' e j t hj ht hp z => ?_
  cases e
  obtain ⟨v, r1, r2⟩ := en.at' j t ht (by intro w; subst w; cases hp)
  rw [z] at r1
  cases r1
  cases t with
  | un => cases hp
  | im _ => cases hp
  | mu es => obtain ⟨l', ws, e, q1, _⟩ := r2; cases e; rw [h0] at q1; cases q1
  | dk kvs => obtain ⟨d', e, _, nd⟩ := r2; cases e; obtain ⟨_, _, xs, q1, _⟩ := nd; rw [h0] at q1; cases q1
  | dr kvs => obtain ⟨d', e, nd⟩ := r2; cases e; obtain ⟨_, _, xs, q1, _⟩ := nd; rw [h0] at q1; cases q1
  | sq _ => cases hp
theorem sx_new {nm : Str} (i : Nat) (fm : Fm W k F) (hi : ∀ j, (F j).N[i]? = some nm) (hx : ∀ j, Loc (F j).env.scope nm) (hf : ∀ j, (F j).fn nm = true ∨ (F j).env.scope.names.lookup nm = some .local) (h : EL W F e Γ ds)
    (hs : ∀ j, swapsWith e (some (.Name nm p)) pos.line (F j).env = pure false := by exact fun _ => rfl) : SX W F (.Assign [.Name nm p] e pos) Γ (.nx (Γ.set i (.mu ds))) :=
  .of (fun j => ps_set (fm.nd j) (hi j) (hx j) (pe_w j) (hs j) (hf j)) fun σ G H en D q => h σ G H en _ fun l vs G' H' h0 g h1 h2 dv => q _ G' H' g.mr (en.setNew i h0 g h1 h2 dv) fun l' ol => by
    rcases own_set ol with r | ⟨_, r⟩
    · exact .inl r
    · cases r; exact .inr h0
/-- (a, b, ..) = data -/
theorem sx_unp {T : Tg} (h : EX W F e Γ d) (hg : PGX W F tg T) (hf : T.fits d) (hs : ∀ j, swapsWithSole [tg] e pos.line (F j).env = pure false := by exact fun _ => rfl) (hw : ∀ j, swappedStores [tg] e (F j).env = pure none := by exact fun _ => rfl)
    (h1 : ∀ j, (assignEach [tg] (F j).env).map (·.2) = [assign tg (F j).env] := by exact fun _ => rfl) : SX W F (.Assign [tg] e pos) Γ (.nx (T.put Γ d)) :=
  .of (fun j => ps_asg (pe_w j) (hg j) (hs j) (hw j) (h1 j)) fun σ G H en D q => h σ G H en _ fun v G' H' g dv => g_put (en.gr g) dv hf fun σ' en' _ ow => q σ' G' H' g.mr en' fun l ol => .inl (ow l ol)
/-- x += e of ints (and any data by an operator that makes a new value) -/
theorem sx_aug {nm : Str} {op : Operator} (i : Nat) (fm : Fm W k F) (hi : ∀ j, (F j).N[i]? = some nm) (hx : ∀ j, Loc (F j).env.scope nm) (hf : ∀ j, (F j).fn nm = true ∨ (F j).env.scope.names.lookup nm = some .local) (hv : Γ[i]? = some (.im x)) (h : EX W F e Γ y) (ho : OpD W F (inplaceOp op) x y d) :
    SX W F (.AugAssign (.Name nm p) op e pos) Γ (.nx (Γ.set i (.im d))) :=
  let ⟨r, h1, h2⟩ := ho
  .of (t := tAug i (TEw F e) r) (fun j => ps_aug (fm.nd j) (hi j) (hx j) (pe_w j) (h1 j) (hf j)) fun σ G H en D q => by
    obtain ⟨v, e1, e2⟩ := en.im hv
    exact ⟨v, e1, h σ G H en _ fun w G1 H1 g1 d1 => h2 G1 H1 v w g1.sub (e2.up g1.up) d1 _ fun u G2 H2 g2 d2 => q _ G2 H2 (g1.trans g2).mr ((en.gr (g1.trans g2)).setIm i d2) fun l ol => .inl (own_set_im ol)⟩

/-! ### an owned list changes -/
theorem Nv.write {G H : Hp} {σ : L2.St} {i : Nat} {l : Addr} {vs ws : List V} (en : Nv W G H σ Γ) (h : Γ[i]? = some (.mu ds)) (e1 : σ[i]? = some (some (.ref l))) (e2 : H l = some (.lst vs)) (e3 : G l = none) (dw : DtAll W.K G ws ys) :
    Mr (Own σ Γ) G H G (upd H l (.lst ws)) ∧ Nv W G (upd H l (.lst ws)) σ (Γ.set i (.mu ys)) ∧ (∀ l', Own σ (Γ.set i (.mu ys)) l' → Own σ Γ l') := by
  have hi : i < Γ.length := (List.getElem?_eq_some_iff.mp h).1
  have sub : Same G (upd H l (.lst ws)) := fun b u q => by
    rw [upd_ne (ne_of_none q e3)]
    exact en.sub b u q
  have at1 : ∀ {j : Nat} {s : Slot}, (Γ.set i (.mu ys))[j]? = some s → (j = i ∧ s = .mu ys) ∨ (j ≠ i ∧ Γ[j]? = some s) := fun {j s} q => by
    by_cases hj : i = j
    · subst hj
      rw [List.getElem?_set_self hi] at q
      exact .inl ⟨rfl, (Option.some.inj q).symm⟩
    · rw [List.getElem?_set_ne hj] at q
      exact .inr ⟨fun z => hj z.symm, q⟩
  refine ⟨⟨fun b u q n => ?_, Same.refl _, sub, fun b q r => absurd q r, fun b q => ?_⟩, ⟨sub, by simpa using en.len, fun j s q r => ?_, fun j j' s s' l' hjj q1 q2 p1 p2 => ?_⟩, fun l' q => ?_⟩
  · rw [upd_ne fun z => n (by subst z; exact ⟨i, _, h, rfl, e1⟩)]
    exact q
  · by_cases hb : b = l
    · subst hb; rw [upd_same] at q; cases q
    · rw [upd_ne hb] at q; exact q
  · rcases at1 q with ⟨rfl, rfl⟩ | ⟨hj, q⟩
    · exact ⟨_, e1, l, ws, rfl, upd_same, e3, dw⟩
    · obtain ⟨v, r1, r2⟩ := en.at' j s q r
      refine ⟨v, r1, ?_⟩
      have ap : ∀ l', s.ptr = true → v = .ref l' → l' ≠ l := fun l' hp hv' z => by
        subst z
        exact en.apart i j (.mu ds) s l' (fun z => hj z.symm) h q rfl hp e1 (by rw [r1, hv'])
      cases s with
      | un => trivial
      | im d => exact r2
      | mu es =>
        obtain ⟨l', us, rfl, q1, q2, q3⟩ := r2
        exact ⟨l', us, rfl, by rw [upd_ne (ap l' rfl rfl)]; exact q1, q2, q3⟩
      | dk kvs =>
        obtain ⟨d', rfl, q1, q2⟩ := r2
        exact ⟨d', rfl, q1, q2.up (Same.refl _) fun u z => by rw [upd_ne (ap d' rfl rfl)]; exact z⟩
      | dr kvs =>
        obtain ⟨d', rfl, q2⟩ := r2
        exact ⟨d', rfl, q2.up (Same.refl _) fun u z => by rw [upd_ne (ap d' rfl rfl)]; exact z⟩
      | sq ns => exact r2
  · have q1' : ∃ t, Γ[j]? = some t ∧ t.ptr = true := by
      rcases at1 q1 with ⟨rfl, rfl⟩ | ⟨_, q1⟩
      · exact ⟨_, h, rfl⟩
      · exact ⟨_, q1, p1⟩
    have q2' : ∃ t, Γ[j']? = some t ∧ t.ptr = true := by
      rcases at1 q2 with ⟨rfl, rfl⟩ | ⟨_, q2⟩
      · exact ⟨_, h, rfl⟩
      · exact ⟨_, q2, p2⟩
    obtain ⟨t, a1, a2⟩ := q1'
    obtain ⟨t', b1, b2⟩ := q2'
    exact en.apart j j' t t' l' hjj a1 b1 a2 b2
  · obtain ⟨j, s, q1, q2, q3⟩ := q
    rcases at1 q1 with ⟨rfl, rfl⟩ | ⟨_, q1⟩
    · exact ⟨j, _, h, rfl, q3⟩
    · exact ⟨j, s, q1, q2, q3⟩
/-- xs.append(e) -/
theorem sx_append {nm : Str} {ap cp : Pos} (i : Nat) (fm : Fm W k F) (hi : ∀ j, (F j).N[i]? = some nm) (hv : ∀ j, Vis (F j).env.scope nm) (h : Γ[i]? = some (.mu ds)) (hz : ds.length < sizeLine) (he : EX W F e Γ d)
    (hbase : ∀ j, attributeBase (.Name nm p) "append" (F j).env (eval (.Name nm p) (F j).env) = eval (.Name nm p) (F j).env := by exact fun _ => rfl)
    (hfew : ∀ j, ((backTo cp (starEach [e] (F j).env)).all (fun x => !x.1) && (backToKw cp (keywordEach [] (F j).env)).all (fun x => x.1.isSome) && decide ([e].length + ([] : List Keyword).length + (if ([] : List Keyword).isEmpty then 0 else 1) < 30)) = true := by exact fun _ => rfl)
    (hline : (ap.endLine == cp.line) = true := by rfl) (hs : ∀ j, starEach [e] (F j).env = (false, eval e (F j).env) :: starEach [] (F j).env := by exact fun _ => rfl) (hplain : ∀ j, (backTo cp (starEach [] (F j).env)).any (·.1) = false := by exact fun _ => rfl)
    (hsw : ∀ j, swapsWith (.Call (.Attribute (.Name nm p) "append" ap) [e] [] cp) none pos.line (F j).env = pure false := by exact fun _ => rfl)
    (hd : (nm == ("__debug__" : Str)) = false := by decide) (hcd : (nm == ("__classdict__" : Str)) = false := by decide) :
    SX W F (.Expr (.Call (.Attribute (.Name nm p) "append" ap) [e] [] cp) pos) Γ (.nx (Γ.set i (.mu (ds ++ [d])))) :=
  .of (t := tDrop (tBM W.K "list" rAppend (tVar i) (tCons (TEw F e) tNil))) (fun j => by
    have := ps_expr (pos := pos) (pe_bm PySem.F.plainAttrs_list PySem.F.slot_list_append PySem.F.type_list_append (mt_append (X := F j)) (pe_var (hi j) (hv j) hd hcd) (pa_cons (pe_w (e := e) j) pa_nil (hs j)) (hbase j) (hfew j) hline (hs j) (hplain j)) (hsw j)
    rw [fm.K j] at this
    exact this) fun σ G H en D q => by
    obtain ⟨l, vs, e1, e2, e3, e4⟩ := en.mu h
    refine ⟨.ref l, e1, .inl ⟨rfl, _, SqL.of e2⟩, ?_⟩
    refine he σ G H en _ fun v G1 H1 g1 d1 => ?_
    have en1 := en.gr g1
    have k1 := g1.same _ _ e2
    obtain ⟨m, en2, ow⟩ := en1.write (ws := vs ++ [v]) h e1 k1 (gr_free g1 e3 e2) ((e4.up g1.up).app (.cons d1 .nil))
    refine ⟨l, vs, v, rfl, rfl, k1, by rw [e4.length]; exact hz, ?_⟩
    exact q σ G1 _ (g1.mr.trans m fun l' ol => .inl ol) en2 fun l' ol => .inl (ow l' ol)
end
end TW
/-! Part 5: += of lists, pop, stores, loops, defs. -/
namespace TW
open PySem PySem.Spec PyProof.Rows L2
section
variable {ι : Type} {W : Wd} {F : ι → Cx} {k : Nat} {Γ Γ1 Γ2 : SC} {a b e tg iter elt : Expr} {es : List Expr} {st : Stmt} {sts els : List Stmt} {x y z d : PyData} {ds ys : List PyData} {pos p pos2 : Pos} {n m : Int} {c : Bool} {o : Out} {t u : TS}
theorem get_set {i : Nat} {s t : Slot} (h : Γ[i]? = some s) : (Γ.set i t)[i]? = some t := List.getElem?_set_self (List.getElem?_eq_some_iff.mp h).1
/-- xs += a list -/
theorem sx_ext {nm : Str} (i : Nat) (fm : Fm W k F) (hi : ∀ j, (F j).N[i]? = some nm) (hx : ∀ j, Loc (F j).env.scope nm) (hf : ∀ j, (F j).fn nm = true ∨ (F j).env.scope.names.lookup nm = some .local) (hv : Γ[i]? = some (.mu ds)) (h : EX W F e Γ (.list ys)) (hz : ds.length + ys.length ≤ sizeLine) :
    SX W F (.AugAssign (.Name nm p) .Add e pos) Γ (.nx (Γ.set i (.mu (ds ++ ys)))) :=
  .of (t := tAug i (TEw F e) rExt2) (fun j => ps_aug (fm.nd j) (hi j) (hx j) (pe_w j) iop_ext (hf j)) fun σ G H en D q => by
    obtain ⟨l, vs, e1, e2, e3, e4⟩ := en.mu hv
    refine ⟨.ref l, e1, h σ G H en _ fun w G1 H1 g1 d1 => ?_⟩
    obtain ⟨l2, ws, rfl, q1, q2⟩ := dp_lst d1
    have en1 := en.gr g1
    have k1 := g1.same _ _ e2
    obtain ⟨m, en2, ow⟩ := en1.write (ws := vs ++ ws) hv e1 k1 (gr_free g1 e3 e2) ((e4.up g1.up).app q2)
    refine ⟨l, l2, vs, ws, rfl, rfl, k1, g1.sub _ _ q1, by rw [e4.length, q2.length]; exact hz, ?_⟩
    have es : σ.set i (some (.ref l)) = σ := by
      apply List.ext_getElem?
      intro j
      by_cases hj : i = j
      · subst hj
        rw [List.getElem?_set_self (List.getElem?_eq_some_iff.mp e1).1, e1]
      · rw [List.getElem?_set_ne hj]
    show D.nx (σ.set i (some (.ref l))) _
    rw [es]
    exact q σ G1 _ (g1.mr.trans m fun l' ol => .inl ol) en2 fun l' ol => .inl (ow l' ol)
/-- y = xs.pop() -/
theorem sx_pop {nm ny : Str} {ap cp py : Pos} (i iy : Nat) (fm : Fm W k F) (hi : ∀ j, (F j).N[i]? = some nm) (hv : ∀ j, Vis (F j).env.scope nm) (hy : ∀ j, (F j).N[iy]? = some ny) (hx : ∀ j, Loc (F j).env.scope ny) (hf : ∀ j, (F j).fn ny = true ∨ (F j).env.scope.names.lookup ny = some .local) (h : Γ[i]? = some (.mu (ds ++ [d])))
    (hbase : ∀ j, attributeBase (.Name nm p) "pop" (F j).env (eval (.Name nm p) (F j).env) = eval (.Name nm p) (F j).env := by exact fun _ => rfl) (hline : (ap.endLine == cp.line) = true := by rfl)
    (hs : ∀ j, swapsWith (.Call (.Attribute (.Name nm p) "pop" ap) [] [] cp) (some (.Name ny py)) pos.line (F j).env = pure false := by exact fun _ => rfl)
    (hd : (nm == ("__debug__" : Str)) = false := by decide) (hcd : (nm == ("__classdict__" : Str)) = false := by decide) :
    SX W F (.Assign [.Name ny py] (.Call (.Attribute (.Name nm p) "pop" ap) [] [] cp) pos) Γ (.nx ((Γ.set i (.mu ds)).set iy (.im d))) :=
  .of (t := tAsg (tBM0 W.K "list" rPop (tVar i)) (gName iy)) (fun j => by
    have := ps_set (pos := pos) (pos' := py) (fm.nd j) (hy j) (hx j) (pe_bm0 (cpos := cp) (apos := ap) PySem.F.plainAttrs_list PySem.F.slot_list_pop PySem.F.type_list_pop (mt_pop (X := F j)) (pe_var (pos := p) (hi j) (hv j) hd hcd) (hbase j) hline) (hs j) (hf j)
    rw [fm.K j] at this
    exact this) fun σ G H en D q => by
    obtain ⟨l, vs, e1, e2, e3, e4⟩ := en.mu h
    have hlen : vs.length = ds.length + 1 := by rw [e4.length]; simp
    obtain ⟨v, hv1, hv2⟩ := e4.at (i := ds.length) (d := d) (by simp)
    have hdl : DtAll W.K G vs.dropLast ds := by
      have := e4.dropLast
      rw [List.dropLast_concat] at this
      exact this
    obtain ⟨m, en2, ow⟩ := en.write (ws := vs.dropLast) h e1 e2 e3 hdl
    refine ⟨.ref l, e1, .inl ⟨rfl, _, SqL.of e2⟩, l, vs, v, rfl, rfl, e2, by rw [hlen]; exact hv1, ?_⟩
    exact q _ G _ m (en2.setIm iy hv2) fun l' ol => .inl (ow l' (own_set_im ol))
/-- xs[j] = e -/
theorem DtAll_set {K : PySem.W.Frag} {G : Hp} {v : V} {d : PyData} (h : Dt K G v d) : ∀ {vs : List V} {ds : List PyData} (j : Nat), DtAll K G vs ds → DtAll K G (vs.set j v) (ds.set j d)
  | _, _, _, .nil => .nil
  | _, _, 0, .cons _ t => .cons h t
  | _, _, j + 1, .cons q t => .cons q (DtAll_set h j t)
theorem sx_store {nm : Str} {ix : Expr} {tp : Pos} {j : Nat} (i : Nat) (fm : Fm W k F) (hi : ∀ j, (F j).N[i]? = some nm) (hv : ∀ j, Vis (F j).env.scope nm) (h : Γ[i]? = some (.mu ds)) (hix : EX W F ix Γ (.int n)) (hn : ixN ds.length n = some j) (he : EX W F e Γ d)
    (ha : ∀ t v, assign (.Subscript (.Name nm p) ix tp) (F t).env v = (do
      let ov ← holding [v] (eval (.Name nm p) (F t).env)
      let iv ← holding [v, ov] (eval ix (F t).env)
      standAt tp
      holding [v, ov, iv] (setItem ov iv v)
      release [v, ov, iv] []) := by exact fun _ _ => rfl)
    (hs : ∀ t, swapsWithSole [.Subscript (.Name nm p) ix tp] e pos.line (F t).env = pure false := by exact fun _ => rfl) (hw : ∀ t, swappedStores [.Subscript (.Name nm p) ix tp] e (F t).env = pure none := by exact fun _ => rfl)
    (h1 : ∀ t, (assignEach [.Subscript (.Name nm p) ix tp] (F t).env).map (·.2) = [assign (.Subscript (.Name nm p) ix tp) (F t).env] := by exact fun _ => rfl)
    (hd : (nm == ("__debug__" : Str)) = false := by decide) (hcd : (nm == ("__classdict__" : Str)) = false := by decide) :
    SX W F (.Assign [.Subscript (.Name nm p) ix tp] e pos) Γ (.nx (Γ.set i (.mu (ds.set j d)))) :=
  .of (t := tAsg (TEw F e) (gSub (tVar i) (TEw F ix) rSetL)) (fun t => ps_asg (pe_w t) (pg_sub (pe_var (hi t) (hv t) hd hcd) (pe_w t) set_list (ha t)) (hs t) (hw t) (h1 t)) fun σ G H en D q =>
    he σ G H en _ fun v G1 H1 g1 d1 => by
      obtain ⟨l, vs, e1, e2, e3, e4⟩ := en.mu h
      refine ⟨.ref l, e1, hix σ G1 H1 (en.gr g1) _ fun w G2 H2 g2 d2 => ?_⟩
      cases dp_int d2
      have g := g1.trans g2
      obtain ⟨m, en2, ow⟩ := (en.gr g).write (ws := vs.set j v) h e1 (g.same _ _ e2) (gr_free g e3 e2) (DtAll_set (d1.up g2.up) j (e4.up g.up))
      exact ⟨l, vs, n, j, rfl, rfl, g.same _ _ e2, by rw [e4.length]; exact hn, q σ G2 _ (g.mr.trans m fun l' ol => .inl ol) en2 fun l' ol => .inl (ow l' ol)⟩

/-! ### for -/
theorem sx_for {T : Tg} (Γs : Nat → SC) (h0 : Γ = Γs 0) (hi : IX W F tg iter Γ ys) (fm : Fm W k F) (hg : PGX W F tg T) (fits : ∀ y ∈ ys, T.fits y)
    (body : ∀ t y, ys[t]? = some y → BX W F sts (T.put (Γs t) y) (.nx (Γs (t + 1)))) (hs : ∀ j x, foldedSetIterable iter (F j).env x = pure x := by exact fun _ _ => rfl) :
    SX W F (.For tg iter sts [] pos) Γ (.nx (Γs ys.length)) :=
  .of (fun j => ps_for (tg := tg) (wi := TIw F tg iter) (g := gOf W.K T) (tb := TSsw F sts) (by rw [fm.xe j]; exact PassesOwn.never) (fm.calm j) (pi_w j) (hg j) (pss_w j) (hs j)) fun σ G H en D q => hi σ G H en _ fun J G1 H1 g1 ru => by
    refine ⟨fun t mm σ' H' => mm = ys.length - t ∧ t ≤ ys.length ∧ ∃ G', Mr (Own σ Γ) G H G' H' ∧ Same G1 G' ∧ Nv W G' H' σ' (Γs t) ∧ (∀ l, Own σ' (Γs t) l → Own σ Γ l ∨ H l = none), ⟨_, rfl, Nat.zero_le _, G1, g1.mr, Same.refl _, by rw [← h0]; exact en.gr g1, fun l ol => .inl (by rw [h0]; exact ol)⟩, ?_⟩
    rintro t mm σ' H' ⟨rfl, ht, G', mr, up, en', ow⟩
    obtain ⟨go, st⟩ := ru G' H' up en'.sub
    by_cases hlt : t < ys.length
    · have hy : ys[t]? = some ys[t] := List.getElem?_eq_getElem hlt
      obtain ⟨g0, gy⟩ := go t _ hy
      refine .inr ⟨g0, fun σ'' H'' => ∃ G'', Mr (Own σ Γ) G H G'' H'' ∧ Same G1 G'' ∧ Nv W G'' H'' σ'' (Γs (t + 1)) ∧ (∀ l, Own σ'' (Γs (t + 1)) l → Own σ Γ l ∨ H l = none), fun σ'' H'' nn => ⟨_, by omega, rfl, hlt, nn⟩, fun v H2 yl => ?_⟩
      obtain ⟨G2, g2, dv⟩ := gy v H2 yl
      refine g_put (en'.gr g2) dv (fits _ (List.getElem_mem hlt)) fun σ3 en3 _ ow3 => ?_
      refine body t _ hy σ3 G2 H2 en3 _ fun σ4 G4 H4 m4 en4 ow4 => ?_
      have m3 : Mr (Own σ Γ) G H G2 H2 := mr.trans g2.mr (ms1 := Own σ' (Γs t)) ow
      refine ⟨G4, m3.trans m4 fun l ol => ow l (ow3 l ol), (up.trans g2.up).trans m4.up, en4, fun l ol => ?_⟩
      rcases ow4 l ol with r | r
      · exact ow l (ow3 l r)
      · exact .inr (m3.free l r)
    · have e : t = ys.length := by omega
      subst e
      exact .inl ⟨st, q σ' G' H' mr en' ow⟩
/-- a for that returns at turn t0 -/
theorem sx_forR {T : Tg} (Γs : Nat → SC) (h0 : Γ = Γs 0) (hi : IX W F tg iter Γ ys) (fm : Fm W k F) (hg : PGX W F tg T) (fits : ∀ y ∈ ys, T.fits y) (t0 : Nat) (y0 : PyData) (hy0 : ys[t0]? = some y0)
    (body : ∀ t y, t < t0 → ys[t]? = some y → BX W F sts (T.put (Γs t) y) (.nx (Γs (t + 1)))) (last : BX W F sts (T.put (Γs t0) y0) (.rt d)) (hs : ∀ j x, foldedSetIterable iter (F j).env x = pure x := by exact fun _ _ => rfl) :
    SX W F (.For tg iter sts [] pos) Γ (.rt d) :=
  .of (fun j => ps_for (tg := tg) (wi := TIw F tg iter) (g := gOf W.K T) (tb := TSsw F sts) (by rw [fm.xe j]; exact PassesOwn.never) (fm.calm j) (pi_w j) (hg j) (pss_w j) (hs j)) fun σ G H en D q => hi σ G H en _ fun J G1 H1 g1 ru => by
    have hlt0 : t0 < ys.length := (List.getElem?_eq_some_iff.mp hy0).1
    refine ⟨fun t mm σ' H' => mm = t0 + 1 - t ∧ t ≤ t0 ∧ ∃ G', Mr (Own σ Γ) G H G' H' ∧ Same G1 G' ∧ Nv W G' H' σ' (Γs t) ∧ (∀ l, Own σ' (Γs t) l → Own σ Γ l ∨ H l = none), ⟨_, rfl, Nat.zero_le _, G1, g1.mr, Same.refl _, by rw [← h0]; exact en.gr g1, fun l ol => .inl (by rw [h0]; exact ol)⟩, ?_⟩
    rintro t mm σ' H' ⟨rfl, ht, G', mr, up, en', ow⟩
    obtain ⟨go, st⟩ := ru G' H' up en'.sub
    have hlt : t < ys.length := Nat.lt_of_le_of_lt ht hlt0
    have hy : ys[t]? = some ys[t] := List.getElem?_eq_getElem hlt
    obtain ⟨g0, gy⟩ := go t _ hy
    refine .inr ⟨g0, fun σ'' H'' => t < t0 ∧ ∃ G'', Mr (Own σ Γ) G H G'' H'' ∧ Same G1 G'' ∧ Nv W G'' H'' σ'' (Γs (t + 1)) ∧ (∀ l, Own σ'' (Γs (t + 1)) l → Own σ Γ l ∨ H l = none), fun σ'' H'' nn => ⟨_, by omega, rfl, nn.1, nn.2⟩, fun v H2 yl => ?_⟩
    obtain ⟨G2, g2, dv⟩ := gy v H2 yl
    refine g_put (en'.gr g2) dv (fits _ (List.getElem_mem hlt)) fun σ3 en3 _ ow3 => ?_
    have m3 : Mr (Own σ Γ) G H G2 H2 := mr.trans g2.mr (ms1 := Own σ' (Γs t)) ow
    by_cases e : t = t0
    · subst e
      rw [hy] at hy0
      cases hy0
      exact last σ3 G2 H2 en3 _ fun u G4 H4 m4 du => q u G4 H4 (m3.trans m4 fun l ol => ow l (ow3 l ol)) du
    · refine body t _ (by omega) hy σ3 G2 H2 en3 _ fun σ4 G4 H4 m4 en4 ow4 => ?_
      refine ⟨by omega, G4, m3.trans m4 fun l ol => ow l (ow3 l ol), (up.trans g2.up).trans m4.up, en4, fun l ol => ?_⟩
      rcases ow4 l ol with r | r
      · exact ow l (ow3 l r)
      · exact .inr (m3.free l r)
/-! ### while -/
theorem sx_while (Γs : Nat → SC) (N : Nat) (h0 : Γ = Γs 0) (fm : Fm W k F) (test : ∀ t, t < N → EB W F e (Γs t) true) (body : ∀ t, t < N → BX W F sts (Γs t) (.nx (Γs (t + 1)))) (stop : EB W F e (Γs N) false) :
    SX W F (.While e sts [] pos) Γ (.nx (Γs N)) :=
  .of (fun j => ps_while (by rw [fm.xe j]; exact PassesOwn.never) (pt_w j) (pss_w j)) fun σ G H en D q => by
    refine ⟨fun mm σ' H' => ∃ t, t ≤ N ∧ mm = N - t ∧ ∃ G', Mr (Own σ Γ) G H G' H' ∧ Nv W G' H' σ' (Γs t) ∧ (∀ l, Own σ' (Γs t) l → Own σ Γ l ∨ H l = none), ⟨_, 0, Nat.zero_le _, rfl, G, Mr.refl en.sub, by rw [← h0]; exact en, fun l ol => .inl (by rw [h0]; exact ol)⟩, ?_⟩
    rintro mm σ' H' ⟨t, ht, rfl, G', mr, en', ow⟩
    by_cases hlt : t < N
    · refine test t hlt σ' G' H' en' _ fun G2 H2 g2 => ?_
      show (if true = true then _ else _)
      rw [if_pos rfl]
      refine ⟨fun σ'' H'' => ∃ G'', Mr (Own σ Γ) G H G'' H'' ∧ Nv W G'' H'' σ'' (Γs (t + 1)) ∧ (∀ l, Own σ'' (Γs (t + 1)) l → Own σ Γ l ∨ H l = none), fun σ'' H'' nn => ⟨_, by omega, t + 1, hlt, rfl, nn⟩, ?_⟩
      have m3 : Mr (Own σ Γ) G H G2 H2 := mr.trans g2.mr (ms1 := Own σ' (Γs t)) ow
      refine body t hlt σ' G2 H2 (en'.gr g2) _ fun σ4 G4 H4 m4 en4 ow4 => ?_
      refine ⟨G4, m3.trans m4 ow, en4, fun l ol => ?_⟩
      rcases ow4 l ol with r | r
      · exact ow l r
      · exact .inr (m3.free l r)
    · have e : t = N := by omega
      subst e
      refine stop σ' G' H' en' _ fun G2 H2 g2 => ?_
      show (if false = true then _ else _)
      rw [if_neg Bool.false_ne_true]
      exact q σ' G2 H2 (mr.trans g2.mr (ms1 := Own σ' (Γs t)) ow) (en'.gr g2) ow
/-- while xs: an owned list's truth -/
theorem eb_mu {nm : Str} (i : Nat) (fm : Fm W k F) (hi : ∀ j, (F j).N[i]? = some nm) (hv : ∀ j, Vis (F j).env.scope nm) (h : Γ[i]? = some (.mu ds)) (he : ∀ j wh, isTrue (.Name nm p) (F j).env wh = (do let v ← wh; standAt p; holding [v] (truthy v)) := by exact fun _ _ => rfl)
    (hd : (nm == ("__debug__" : Str)) = false := by decide) (hcd : (nm == ("__classdict__" : Str)) = false := by decide) : EB W F (.Name nm p) Γ (!ds.isEmpty) :=
  .of (t := fun σ H Q => tVar i σ H fun x H' => ∃ k, TruV W.K x H' k ∧ Q k H') (fun j => by
    have := pt_truth (pe_var (hi j) (hv j) hd hcd) (he j)
    rw [fm.K j] at this
    exact this) fun σ G H en Q q => by
    obtain ⟨l, vs, e1, e2, e3, e4⟩ := en.mu h
    refine ⟨.ref l, e1, _, .inl ⟨vs, SqL.of e2, rfl⟩, ?_⟩
    have e : vs.isEmpty = ds.isEmpty := by cases e4 <;> rfl
    rw [e]
    exact q G H en.refl
end

/-! ### defs -/
section
variable {W : Wd}
theorem nv_start {G H : Hp} {N : List Str} {vs : List V} {ds : List PyData} (s : Same G H) (h : DtAll W.K G vs ds) : Nv W G H (L2.start N vs) (ds.map Slot.im ++ List.replicate (N.length - ds.length) Slot.un) := by
  have hl := h.length
  have at1 : ∀ {i : Nat} {t : Slot}, (ds.map Slot.im ++ List.replicate (N.length - ds.length) Slot.un)[i]? = some t → t = .un ∨ ∃ d, ds[i]? = some d ∧ t = .im d := fun {i t} q => by
    by_cases hi : i < ds.length
    · rw [List.getElem?_append_left (by simpa using hi), List.getElem?_map] at q
      obtain ⟨d, h1, h2⟩ := Option.map_eq_some_iff.mp q
      exact .inr ⟨d, h1, h2.symm⟩
    · rw [List.getElem?_append_right (by simpa using hi), List.getElem?_replicate] at q
      split at q
      · cases q; exact .inl rfl
      · cases q
  refine ⟨s, by unfold L2.start; simp [hl], fun i t q n => ?_, fun i j t u l hij q1 q2 p1 p2 => ?_⟩
  · rcases at1 q with e | ⟨d, e, rfl⟩
    · exact absurd e n
    · obtain ⟨v, h1, h2⟩ := h.at e
      refine ⟨v, ?_, h2⟩
      unfold L2.start
      rw [List.getElem?_append_left (by simpa using (List.getElem?_eq_some_iff.mp h1).1), List.getElem?_map, h1]
      rfl
  · rcases at1 q1 with e | ⟨d, e, rfl⟩
    · subst e; cases p1
    · cases p1
theorem own_start {N : List Str} {σ : L2.St} {ds : List PyData} {n : Nat} {l : Addr} : ¬ Own σ (ds.map Slot.im ++ List.replicate n Slot.un) l := by
  rintro ⟨i, s, h1, h2, _⟩
  have hm := List.mem_of_getElem? h1
  rcases List.mem_append.mp hm with q | q
  · obtain ⟨d, _, rfl⟩ := List.mem_map.mp q
    cases h2
  · obtain ⟨_, rfl⟩ := List.mem_replicate.mp q
    cases h2
/-- the context of a def's body -/
def bodyF (W : Wd) (N : List Str) (qual : Str) (sc : Scope) (f : Addr) (cdv : Value) (A : Around) (outer : List PySem.Env) (s : Shared) (H : Hp) (E : XK) : Unit → Cx := fun _ => (cxOf CX0 W.P W.w W.K W.mg W.base N qual sc f cdv A outer s H E).nox
theorem fm_body {N ps : List Str} {qual : Str} {sc : Scope} {f : Addr} {cdv : Value} {A : Around} {outer : List PySem.Env} {s : Shared} {H : Hp} {E : XK} {k : Nat} (S : FnScope N ps sc) (hr : Room k (A.deeper (envOfC qual sc s.heap.objs.size f cdv))) : Fm W k (bodyF W N qual sc f cdv A outer s H E) :=
  ⟨fun _ => rfl, fun _ => rfl, fun _ => rfl, fun _ => rfl, fun _ => rfl, fun _ => rfl, fun _ => hr, fun _ => rfl, fun _ => S.nd⟩
theorem ok_def {nm qual : Str} {st : Stmt} {f : Addr} {fd : FuncData} {N ps : List Str} {k : Nat} {rel : List PyData → PyData → Prop} (F : Fun W.K nm qual st f fd) (S : FnScope N ps (defScope st)) (hm : W.mg nm = some (.ref f)) (bi : Binds W.K fd ps [])
    (len : ∀ ds d, rel ds d → ds.length = ps.length)
    (body : ∀ ds d, rel ds d → ∀ (cdv : Value) (A : Around) (outer : List PySem.Env) (s : Shared) (H : Hp) (E : XK), Fm W k (bodyF W N qual (defScope st) f cdv A outer s H E) →
      BX W (bodyF W N qual (defScope st) f cdv A outer s H E) (defBody st) (ds.map Slot.im ++ List.replicate (N.length - ds.length) Slot.un) (.rt d)) : Def W (k + 1) nm ps (spD W rel) := by
  refine ⟨f, fd, F.ok S (fun vs H Q E h => ?_) fun cdv A outer s H vs Q E hr h => ?_, hm, F.kp, bi⟩
  · obtain ⟨G, ds, d, _, h1, h2, _⟩ := h
    rw [h1.length]
    exact len ds d h2
  · obtain ⟨G, ds, d, h0, h1, h2, q⟩ := h
    refine ⟨TSsw (bodyF W N qual (defScope st) f cdv A outer s H E) (defBody st), pss_w (F := bodyF W N qual (defScope st) f cdv A outer s H E) (), ?_⟩
    exact body ds d h2 cdv A outer s H E (fm_body S hr) _ G H (nv_start h0 h1) _ fun v G' H' m dv => q v G' H' (m.gr fun l ol => (own_start (N := N) ol).elim) dv
theorem ok_defL {nm qual : Str} {st : Stmt} {f : Addr} {fd : FuncData} {N ps : List Str} {k : Nat} {rel : List PyData → List PyData → Prop} (F : Fun W.K nm qual st f fd) (S : FnScope N ps (defScope st)) (hm : W.mg nm = some (.ref f)) (bi : Binds W.K fd ps [])
    (len : ∀ ds d, rel ds d → ds.length = ps.length)
    (body : ∀ ds d, rel ds d → ∀ (cdv : Value) (A : Around) (outer : List PySem.Env) (s : Shared) (H : Hp) (E : XK), Fm W k (bodyF W N qual (defScope st) f cdv A outer s H E) →
      BX W (bodyF W N qual (defScope st) f cdv A outer s H E) (defBody st) (ds.map Slot.im ++ List.replicate (N.length - ds.length) Slot.un) (.rl d)) : Def W (k + 1) nm ps (spL W rel) := by
  refine ⟨f, fd, F.ok S (fun vs H Q E h => ?_) fun cdv A outer s H vs Q E hr h => ?_, hm, F.kp, bi⟩
  · obtain ⟨G, ds, d, _, h1, h2, _⟩ := h
    rw [h1.length]
    exact len ds d h2
  · obtain ⟨G, ds, d, h0, h1, h2, q⟩ := h
    refine ⟨TSsw (bodyF W N qual (defScope st) f cdv A outer s H E) (defBody st), pss_w (F := bodyF W N qual (defScope st) f cdv A outer s H E) (), ?_⟩
    exact body ds d h2 cdv A outer s H E (fm_body S hr) _ G H (nv_start h0 h1) _ fun l vs G' H' h3 m h4 h5 dv => q l vs G' H' h3 (m.gr fun l ol => (own_start (N := N) ol).elim) h4 h5 dv
end
end TW
/-! Part 6: zip of two and of three, lists and tuples in any mix. -/
namespace TW
open PySem PySem.Spec PyProof.Rows L2

/-! ### a list (false) or a tuple (true) -/
def SqB (K : PySem.W.Frag) : Bool → Hp → Addr → List V → Prop
  | false => SqL K
  | true => SqT K
def ItB : Bool → Heap → Addr → Addr → Nat → Prop
  | false, h, i, l, n => h.IsListIter i l n
  | true, h, i, l, n => h.IsTupleIter i l n
def SeqB : Bool → Heap → Addr → Array Value → Prop
  | false, h, a, its => h.IsList a its
  | true, h, a, its => h.IsTuple a its
def objB : Bool → Addr → Obj
  | false, l => { cls := .type "list_iterator", data := .fields #[.ref l, .int 0 0] }
  | true, l => { cls := .type "tuple_iterator", data := .fields #[.ref l, .int 0 0] }
theorem sqB_read {X : Cx} {pins : List (Addr × Obj)} {σ : L2.St} {H : Hp} {s : Shared} {xs : List V} {a : Addr} (I : Inv X pins σ H s) : ∀ {k : Bool}, SqB X.K k H a xs → ∃ its : List Value, Vals xs its ∧ SeqB k s.heap a its.toArray ∧ a < s.heap.objs.size
  | false, h => let ⟨its, r, p, _⟩ := I.list h; ⟨its, r, p.isList, p.lt⟩
  | true, h => let ⟨its, r, p, _⟩ := I.tuple h; ⟨its, r, p, let ⟨_, e, _⟩ := id p; Heap.lt_size e⟩
theorem sqB_inj {X : Cx} {pins : List (Addr × Obj)} {σ : L2.St} {H : Hp} {s : Shared} {xs ys : List V} {a : Addr} (I : Inv X pins σ H s) : ∀ {k : Bool}, SqB X.K k H a xs → SqB X.K k H a ys → xs = ys
  | false, h, h' => I.list_inj h h'
  | true, h, h' => I.tuple_inj h h'
theorem draws_B {prog : Program} {w : World} {A : Around} (hh : A.handled = none) (it l : Addr) (hne : l ≠ it) (items : Array Value) : ∀ k : Bool, Draws prog w A it [it, l] items.size (fun i v => items[i]? = some v) (fun i h => ItB k h it l i ∧ SeqB k h l items)
  | false => Draws.list hh it l hne items
  | true => Draws.tuple hh it l hne items
theorem begins_B (l : Addr) (items : Array Value) : ∀ k : Bool, Begins (.ref l) (objB k l) fun h => SeqB k h l items
  | false => begins_list l items
  | true => begins_tuple l items
theorem itB_new {h : Heap} {i l : Addr} : ∀ {k : Bool}, h.get? i = some (objB k l) → ItB k h i l 0
  | false, e => ⟨_, e, rfl, rfl⟩
  | true, e => ⟨_, e, rfl, rfl⟩
theorem itB_obj {h : Heap} {i l : Addr} {n : Nat} : ∀ {k : Bool}, ItB k h i l n → ∃ o, h.get? i = some o ∧ ∀ v, o.data ≠ .cell v
  | false, e => let ⟨o, e1, _, d⟩ := e; ⟨o, e1, fun v z => by rw [d] at z; cases z⟩
  | true, e => let ⟨o, e1, _, d⟩ := e; ⟨o, e1, fun v z => by rw [d] at z; cases z⟩
theorem itB_at {h h' : Heap} {i l : Addr} {n : Nat} (k : ∀ o, h.get? i = some o → h'.get? i = some o) : ∀ {b : Bool}, ItB b h i l n → ItB b h' i l n
  | false, e => e.at k
  | true, e => e.at k

/-! ### a turn from a walk of the library -/
structure WOk (P : Program) (w : World) (K : PySem.W.Frag) (J : It) (fp : List Addr) (it : Addr) (tn : Nat → Heap → Prop) : Prop where
  go : ∀ (X : Cx), X.prog = P → X.w = w → X.K = K → X.calm = true → ∀ (i : Nat) (pins : List (Addr × Obj)) (s : Shared) (σ : L2.St) (H : Hp), Inv X pins σ H s → tn i s.heap → J.go i H →
    ∃ fpW wr n Pt St Mid, WalksT P w X.A it fpW wr n Pt St Mid ∧ (∀ b ∈ wr, b ∈ fp) ∧ St i s.heap ∧ i < n ∧ (∀ vals, Pt i vals → ∃ xs, Vals xs vals.toList ∧ xs.length ≤ sizeLine ∧ ∀ T, H T = none → J.yld i H (.ref T) (upd H T (.tup xs))) ∧ ∀ h, St (i + 1) h → tn (i + 1) h
  stop : ∀ (X : Cx), X.prog = P → X.w = w → X.K = K → X.calm = true → ∀ (i : Nat) (pins : List (Addr × Obj)) (s : Shared) (σ : L2.St) (H : Hp), Inv X pins σ H s → tn i s.heap → J.stop i H →
    ∃ fpW wr Pt St Mid, WalksT P w X.A it fpW wr i Pt St Mid ∧ (∀ b ∈ wr, b ∈ fp) ∧ St i s.heap
theorem turn_W {P : Program} {w : World} {K : PySem.W.Frag} {elts : List Expr} {kk : Nat} {tpos : Pos} {J : It} {fp : List Addr} {it : Addr} {tn : Nat → Heap → Prop} (mem : it ∈ fp)
    (obj : ∀ i h, tn i h → ∀ b ∈ fp, ∃ o, h.get? b = some o ∧ ∀ v, o.data ≠ .cell v) (keep : ∀ i h h', tn i h → (∀ b ∈ fp, ∀ o, h.get? b = some o → h'.get? b = some o) → tn i h')
    (self : ∀ (A : Around) (i : Nat) (s : Shared) (Q : Value → Shared → Prop) (E : Value → Shared → Prop), tn i s.heap → Q (.ref it) s → wpAny (model P w) A (pyIter (.ref it)) Q E s)
    (W : WOk P w K J fp it tn) : Turn P w K (.Tuple elts kk tpos) J fp it tn where
  mem := mem
  obj := obj
  keep := keep
  self := self
  item := by
    intro X hP hw hK hc i pins s σ H E I hf st hg
    obtain ⟨fpW, wr, n, Pt, St, Mid, ww, sub, hst, hlt, hv, hn⟩ := W.go X hP hw hK hc i pins s σ H I st hg
    refine ww.item i s _ E hlt hst fun T vals h' tk hp hT tup mid hk => ⟨.ref T, rfl, ?_⟩
    refine ww.go elts kk tpos i T { s with heap := h', toks := tk } _ E mid fun h'' st' hk' => ?_
    obtain ⟨xs, rv, hz, yl⟩ := hv vals hp
    have nT : H T = none := I.hok.fresh hT
    have hTw : T ∉ wr := ww.apart i T h' mid
    obtain ⟨o, e1, e2, nn, e3⟩ := tup
    have new : ObjOk X.prog X.w (upd H T (.tup xs)) h'' T (.tup xs) := ⟨hz, vals.toList, rv, o, hk' T o hTw e1, e2, nn, by rw [Array.toArray_toList]; exact e3⟩
    have kp : ∀ b o, b ∉ fp → s.heap.get? b = some o → h''.get? b = some o := fun b o hb e => hk' b o (fun z => hb (sub b z)) (hk b o (fun z => hb (sub b z)) e)
    refine ⟨.ref T, _, I.turnedNew (t' := tk) (ch := fp) kp hf hT new, rfl, yl T nT, hn h'' st', fun b hb => ?_⟩
    obtain ⟨ob, eb, _⟩ := obj i s.heap st b hb
    rw [upd_ne (Nat.ne_of_lt (Nat.lt_of_lt_of_le (Heap.lt_size eb) hT))]
    exact (hf b hb).1
  done := by
    intro X hP hw hK hc i pins s σ H E I hf st hg
    obtain ⟨fpW, wr, Pt, St, Mid, ww, sub, hst⟩ := W.stop X hP hw hK hc i pins s σ H I st hg
    refine ww.done s _ E hst fun h' tk hk => ⟨rfl, I.turnedL (t' := tk) (ch := fp) (fun b o hb e => hk b o (fun z => hb (sub b z)) e) hf⟩

theorem sub_z2 {N : Nat} {c : Addr} (h : c ∈ ([N + 4, N + 3, N, N + 1] : List Addr)) : c ∈ ([N + 4, N + 2, N + 3, N, N + 1] : List Addr) := by
  have e' : c = N + 4 ∨ c = N + 3 ∨ c = N ∨ c = N + 1 := by simpa using h
  rcases e' with q | q | q | q <;> simp [q]
theorem sub_z3 {N : Nat} {c : Addr} (h : c ∈ ([N + 5, N + 4, N, N + 1, N + 2] : List Addr)) : c ∈ ([N + 5, N + 3, N + 4, N, N + 1, N + 2] : List Addr) := by
  have e' : c = N + 5 ∨ c = N + 4 ∨ c = N ∨ c = N + 1 ∨ c = N + 2 := by simpa using h
  rcases e' with q | q | q | q | q <;> simp [q]

/-! ### zip of two -/
def ItZ2 (K : PySem.W.Frag) (ka kb : Bool) (a b : Addr) : It :=
  ⟨fun i H => ∃ (xs ys : List V) (x y : V), SqB K ka H a xs ∧ SqB K kb H b ys ∧ xs[i]? = some x ∧ ys[i]? = some y,
    fun i H v H' => ∃ T x y, v = .ref T ∧ H T = none ∧ H' = upd H T (.tup [x, y]) ∧ (∀ xs, SqB K ka H a xs → xs[i]? = some x) ∧ ∀ ys, SqB K kb H b ys → ys[i]? = some y,
    fun i H => ∃ xs ys : List V, SqB K ka H a xs ∧ SqB K kb H b ys ∧ i = min xs.length ys.length⟩
theorem arr_get {its : List Value} {i : Nat} {u v : Value} (h : its[i]? = some u) (h' : its.toArray[i]? = some v) : v = u := by
  have : its[i]? = some v := by simpa using h'
  rw [h] at this
  exact (Option.some.inj this).symm
theorem turn_Z2 {P : Program} {w : World} {K : PySem.W.Frag} {elts : List Expr} {kk : Nat} {tpos : Pos} {ka kb : Bool} {a b : Addr} {N : Nat} (ha : a < N) (hb : b < N) :
    Turn P w K (.Tuple elts kk tpos) (ItZ2 K ka kb a b) [N + 4, N + 2, N + 3, N, N + 1] (N + 4) (fun i h => IsZip h (N + 4) (N + 2) (N + 3) .none ∧ IsTupOf2 h (N + 2) (.ref N) (.ref (N + 1)) ∧ (∃ x y, IsTupOf2 h (N + 3) x y) ∧ ItB ka h N a i ∧ ItB kb h (N + 1) b i) := by
  refine turn_W (by simp) (fun i h st c hc => ?_) (fun i h h' st k => ?_) (fun A i s Q E st h => wpAny_pyIter_zip st.1 h) ⟨?_, ?_⟩
  · obtain ⟨hz, hTI, ⟨x, y, hTO⟩, h1, h2⟩ := st
    have e' : c = N + 4 ∨ c = N + 2 ∨ c = N + 3 ∨ c = N ∨ c = N + 1 := by simpa using hc
    rcases e' with q | q | q | q | q
    · rw [q]; exact ⟨_, hz, fun v q => nomatch q⟩
    · rw [q]; exact ⟨_, hTI, fun v q => nomatch q⟩
    · rw [q]; exact ⟨_, hTO, fun v q => nomatch q⟩
    · rw [q]; exact itB_obj h1
    · rw [q]; exact itB_obj h2
  · obtain ⟨hz, hTI, ⟨x, y, hTO⟩, h1, h2⟩ := st
    exact ⟨k _ (by simp) _ hz, k _ (by simp) _ hTI, ⟨x, y, k _ (by simp) _ hTO⟩, itB_at (fun o => k _ (by simp) o) h1, itB_at (fun o => k _ (by simp) o) h2⟩
  · intro X hP hw hK hc i pins s σ H I st hg
    subst hP hw hK
    obtain ⟨hz, hTI, hTO, h1, h2⟩ := st
    obtain ⟨xs, ys, x, y, q1, q2, e1, e2⟩ := hg
    obtain ⟨its, rv, p1, l1⟩ := sqB_read I q1
    obtain ⟨its2, rv2, p2, l2⟩ := sqB_read I q2
    obtain ⟨u, hu, ru⟩ := rv.get e1
    obtain ⟨u2, hu2, ru2⟩ := rv2.get e2
    have hh : X.A.in1.handled = none := I.ok.hd hc
    have i1 : i < its.toArray.size := by rw [List.size_toArray]; exact (List.getElem?_eq_some_iff.mp hu).1
    have i2 : i < its2.toArray.size := by rw [List.size_toArray]; exact (List.getElem?_eq_some_iff.mp hu2).1
    refine ⟨_, _, _, _, _, _, WalksT.zipD2 (prog := X.prog) (w := X.w) (A := X.A) (zip_sep2 (N := N) (fp1 := [a]) (fp2 := [b]) (by simpa using ha) (by simpa using hb)) (draws_B hh N a (Nat.ne_of_lt ha) its.toArray ka) (draws_B hh (N + 1) b (Nat.ne_of_lt (Nat.lt_succ_of_lt hb)) its2.toArray kb),
      fun c hcm => sub_z2 hcm, ⟨hz, hTI, hTO, ⟨h1, p1⟩, ⟨h2, p2⟩⟩, Nat.lt_min.mpr ⟨i1, i2⟩, fun vals hp => ?_, fun h st => ⟨st.1, st.2.1, st.2.2.1, st.2.2.2.1.1, st.2.2.2.2.1⟩⟩
    obtain ⟨v1, v2, g1, g2, rfl⟩ := hp
    cases arr_get hu g1
    cases arr_get hu2 g2
    exact ⟨[x, y], .cons ru (.cons ru2 .nil), by (show 2 ≤ sizeLine); decide, fun T hT => ⟨T, x, y, rfl, hT, rfl, fun zs hq => by rw [sqB_inj I hq q1]; exact e1, fun zs hq => by rw [sqB_inj I hq q2]; exact e2⟩⟩
  · intro X hP hw hK hc i pins s σ H I st hg
    subst hP hw hK
    obtain ⟨hz, hTI, hTO, h1, h2⟩ := st
    obtain ⟨xs, ys, q1, q2, rfl⟩ := hg
    obtain ⟨its, rv, p1, l1⟩ := sqB_read I q1
    obtain ⟨its2, rv2, p2, l2⟩ := sqB_read I q2
    have hh : X.A.in1.handled = none := I.ok.hd hc
    have en : min its.toArray.size its2.toArray.size = min xs.length ys.length := by rw [List.size_toArray, List.size_toArray, ← rv.length, ← rv2.length]
    have ww := WalksT.zipD2 (prog := X.prog) (w := X.w) (A := X.A) (zip_sep2 (N := N) (fp1 := [a]) (fp2 := [b]) (by simpa using ha) (by simpa using hb)) (draws_B hh N a (Nat.ne_of_lt ha) its.toArray ka) (draws_B hh (N + 1) b (Nat.ne_of_lt (Nat.lt_succ_of_lt hb)) its2.toArray kb)
    rw [en] at ww
    exact ⟨_, _, _, _, _, ww, fun c hcm => sub_z2 hcm, ⟨hz, hTI, hTO, ⟨h1, p1⟩, ⟨h2, p2⟩⟩⟩
def iZ2 (K : PySem.W.Frag) (ka kb : Bool) (ta : TA) : TI := fun σ H R => ta σ H fun vs H1 => ∃ a b xs ys, vs = [.ref a, .ref b] ∧ SqB K ka H1 a xs ∧ SqB K kb H1 b ys ∧ R (ItZ2 K ka kb a b) H1
theorem pi_Z2 {X : Cx} {e e2 : Expr} {ta : TA} {p pos tpos : Pos} {elts : List Expr} {kk : Nat} {ka kb : Bool} (hg : Gl X "zip") (hm : X.mg "zip" = none) (ha : PA X [e, e2] ta)
    (hs : starEach [e, e2] X.env = (false, eval e X.env) :: starEach [e2] X.env) (hpl : (backTo pos (starEach [e2] X.env)).any (·.1) = false) :
    PI X (.Tuple elts kk tpos) (.Call (.Name "zip" p) [e, e2] [] pos) (iZ2 X.K ka kb ta) := by
  refine ⟨fun pins s σ H R I h => ?_⟩
  refine Call_ (ld_blt I hg hm PyProof.Rows.boot_zip (PyProof.Rows.callWith_type1 (thn (ha.run pos pins s σ H _ I h) fun us s1 ⟨vs, H1, I1, r1, q1⟩ => ?_) hs hpl))
  obtain ⟨a, b, xs, ys, ex, q1, q2, q⟩ := q1
  subst ex
  cases r1 with
  | cons r rr =>
    cases rr with
    | cons r' rr =>
      cases rr
      cases r
      cases r'
      obtain ⟨its, rv, p1, l1⟩ := sqB_read I1 q1
      obtain ⟨its2, rv2, p2, l2⟩ := sqB_read I1 q2
      refine zip_begins2 (begins_B a its.toArray ka) (begins_B b its2.toArray kb) p1 p2 fun h' hz hTI hTO h1 h2 hsz hk => wpAny_pyIter_zip hz ?_
      have I2 : Inv X pins σ H1 { s1 with heap := h' } := I1.kept (t' := s1.toks) hk
      refine ⟨_, _, _, _, H1, rfl, I2, turn_Z2 l1 l2, ⟨hz, hTI, ⟨_, _, hTO⟩, itB_new h1, itB_new h2⟩, fun c hc => ?_, q⟩
      have hle : s1.heap.objs.size ≤ c := by
        have e' : c = s1.heap.objs.size + 4 ∨ c = s1.heap.objs.size + 2 ∨ c = s1.heap.objs.size + 3 ∨ c = s1.heap.objs.size ∨ c = s1.heap.objs.size + 1 := by simpa using hc
        rcases e' with z | z | z | z | z <;> rw [z]
        · exact Nat.le_add_right _ _
        · exact Nat.le_add_right _ _
        · exact Nat.le_add_right _ _
        · exact Nat.le_refl _
        · exact Nat.le_add_right _ _
      exact I1.fpOk hle (I1.hok.fresh hle)

/-! ### zip of three -/
def ItZ3 (K : PySem.W.Frag) (ka kb kc : Bool) (a b c : Addr) : It :=
  ⟨fun i H => ∃ (xs ys zs : List V) (x y z : V), SqB K ka H a xs ∧ SqB K kb H b ys ∧ SqB K kc H c zs ∧ xs[i]? = some x ∧ ys[i]? = some y ∧ zs[i]? = some z,
    fun i H v H' => ∃ T x y z, v = .ref T ∧ H T = none ∧ H' = upd H T (.tup [x, y, z]) ∧ (∀ xs, SqB K ka H a xs → xs[i]? = some x) ∧ (∀ ys, SqB K kb H b ys → ys[i]? = some y) ∧ ∀ zs, SqB K kc H c zs → zs[i]? = some z,
    fun i H => ∃ xs ys zs : List V, SqB K ka H a xs ∧ SqB K kb H b ys ∧ SqB K kc H c zs ∧ i = min (min xs.length ys.length) zs.length⟩
theorem turn_Z3 {P : Program} {w : World} {K : PySem.W.Frag} {elts : List Expr} {kk : Nat} {tpos : Pos} {ka kb kc : Bool} {a b c : Addr} {N : Nat} (ha : a < N) (hb : b < N) (hc : c < N) :
    Turn P w K (.Tuple elts kk tpos) (ItZ3 K ka kb kc a b c) [N + 5, N + 3, N + 4, N, N + 1, N + 2] (N + 5)
      (fun i h => IsZip h (N + 5) (N + 3) (N + 4) .none ∧ IsTupOf3 h (N + 3) (.ref N) (.ref (N + 1)) (.ref (N + 2)) ∧ (∃ x y z, IsTupOf3 h (N + 4) x y z) ∧ ItB ka h N a i ∧ ItB kb h (N + 1) b i ∧ ItB kc h (N + 2) c i) := by
  refine turn_W (by simp) (fun i h st d hd => ?_) (fun i h h' st k => ?_) (fun A i s Q E st h => wpAny_pyIter_zip st.1 h) ⟨?_, ?_⟩
  · obtain ⟨hz, hTI, ⟨x, y, z, hTO⟩, h1, h2, h3⟩ := st
    have e' : d = N + 5 ∨ d = N + 3 ∨ d = N + 4 ∨ d = N ∨ d = N + 1 ∨ d = N + 2 := by simpa using hd
    rcases e' with q | q | q | q | q | q
    · rw [q]; exact ⟨_, hz, fun v q => nomatch q⟩
    · rw [q]; exact ⟨_, hTI, fun v q => nomatch q⟩
    · rw [q]; exact ⟨_, hTO, fun v q => nomatch q⟩
    · rw [q]; exact itB_obj h1
    · rw [q]; exact itB_obj h2
    · rw [q]; exact itB_obj h3
  · obtain ⟨hz, hTI, ⟨x, y, z, hTO⟩, h1, h2, h3⟩ := st
    exact ⟨k _ (by simp) _ hz, k _ (by simp) _ hTI, ⟨x, y, z, k _ (by simp) _ hTO⟩, itB_at (fun o => k _ (by simp) o) h1, itB_at (fun o => k _ (by simp) o) h2, itB_at (fun o => k _ (by simp) o) h3⟩
  · intro X hP hw hK hcl i pins s σ H I st hg
    subst hP hw hK
    obtain ⟨hz, hTI, hTO, h1, h2, h3⟩ := st
    obtain ⟨xs, ys, zs, x, y, z, q1, q2, q3, e1, e2, e3⟩ := hg
    obtain ⟨its, rv, p1, l1⟩ := sqB_read I q1
    obtain ⟨its2, rv2, p2, l2⟩ := sqB_read I q2
    obtain ⟨its3, rv3, p3, l3⟩ := sqB_read I q3
    obtain ⟨u, hu, ru⟩ := rv.get e1
    obtain ⟨u2, hu2, ru2⟩ := rv2.get e2
    obtain ⟨u3, hu3, ru3⟩ := rv3.get e3
    have hh : X.A.in1.handled = none := I.ok.hd hcl
    have i1 : i < its.toArray.size := by rw [List.size_toArray]; exact (List.getElem?_eq_some_iff.mp hu).1
    have i2 : i < its2.toArray.size := by rw [List.size_toArray]; exact (List.getElem?_eq_some_iff.mp hu2).1
    have i3 : i < its3.toArray.size := by rw [List.size_toArray]; exact (List.getElem?_eq_some_iff.mp hu3).1
    refine ⟨_, _, _, _, _, _, WalksT.zipD3 (prog := X.prog) (w := X.w) (A := X.A) (zip_sep3 (N := N) (fp1 := [a]) (fp2 := [b]) (fp3 := [c]) (by simpa using ha) (by simpa using hb) (by simpa using hc))
        (draws_B hh N a (Nat.ne_of_lt ha) its.toArray ka) (draws_B hh (N + 1) b (Nat.ne_of_lt (Nat.lt_succ_of_lt hb)) its2.toArray kb) (draws_B hh (N + 2) c (Nat.ne_of_lt (Nat.lt_succ_of_lt (Nat.lt_succ_of_lt hc))) its3.toArray kc),
      fun d hdm => sub_z3 hdm, ⟨hz, hTI, hTO, ⟨h1, p1⟩, ⟨h2, p2⟩, ⟨h3, p3⟩⟩, Nat.lt_min.mpr ⟨Nat.lt_min.mpr ⟨i1, i2⟩, i3⟩, fun vals hp => ?_, fun h st => ⟨st.1, st.2.1, st.2.2.1, st.2.2.2.1.1, st.2.2.2.2.1.1, st.2.2.2.2.2.1⟩⟩
    obtain ⟨v1, v2, v3, g1, g2, g3, rfl⟩ := hp
    cases arr_get hu g1
    cases arr_get hu2 g2
    cases arr_get hu3 g3
    exact ⟨[x, y, z], .cons ru (.cons ru2 (.cons ru3 .nil)), by (show 3 ≤ sizeLine); decide, fun T hT => ⟨T, x, y, z, rfl, hT, rfl, fun zs hq => by rw [sqB_inj I hq q1]; exact e1, fun zs hq => by rw [sqB_inj I hq q2]; exact e2, fun zs hq => by rw [sqB_inj I hq q3]; exact e3⟩⟩
  · intro X hP hw hK hcl i pins s σ H I st hg
    subst hP hw hK
    obtain ⟨hz, hTI, hTO, h1, h2, h3⟩ := st
    obtain ⟨xs, ys, zs, q1, q2, q3, rfl⟩ := hg
    obtain ⟨its, rv, p1, l1⟩ := sqB_read I q1
    obtain ⟨its2, rv2, p2, l2⟩ := sqB_read I q2
    obtain ⟨its3, rv3, p3, l3⟩ := sqB_read I q3
    have hh : X.A.in1.handled = none := I.ok.hd hcl
    have en : min (min its.toArray.size its2.toArray.size) its3.toArray.size = min (min xs.length ys.length) zs.length := by rw [List.size_toArray, List.size_toArray, List.size_toArray, ← rv.length, ← rv2.length, ← rv3.length]
    have ww := WalksT.zipD3 (prog := X.prog) (w := X.w) (A := X.A) (zip_sep3 (N := N) (fp1 := [a]) (fp2 := [b]) (fp3 := [c]) (by simpa using ha) (by simpa using hb) (by simpa using hc))
        (draws_B hh N a (Nat.ne_of_lt ha) its.toArray ka) (draws_B hh (N + 1) b (Nat.ne_of_lt (Nat.lt_succ_of_lt hb)) its2.toArray kb) (draws_B hh (N + 2) c (Nat.ne_of_lt (Nat.lt_succ_of_lt (Nat.lt_succ_of_lt hc))) its3.toArray kc)
    rw [en] at ww
    exact ⟨_, _, _, _, _, ww, fun d hdm => sub_z3 hdm, ⟨hz, hTI, hTO, ⟨h1, p1⟩, ⟨h2, p2⟩, ⟨h3, p3⟩⟩⟩
def iZ3 (K : PySem.W.Frag) (ka kb kc : Bool) (ta : TA) : TI := fun σ H R => ta σ H fun vs H1 => ∃ a b c xs ys zs, vs = [.ref a, .ref b, .ref c] ∧ SqB K ka H1 a xs ∧ SqB K kb H1 b ys ∧ SqB K kc H1 c zs ∧ R (ItZ3 K ka kb kc a b c) H1
theorem pi_Z3 {X : Cx} {e e2 e3 : Expr} {ta : TA} {p pos tpos : Pos} {elts : List Expr} {kk : Nat} {ka kb kc : Bool} (hg : Gl X "zip") (hm : X.mg "zip" = none) (ha : PA X [e, e2, e3] ta)
    (hs : starEach [e, e2, e3] X.env = (false, eval e X.env) :: starEach [e2, e3] X.env) (hpl : (backTo pos (starEach [e2, e3] X.env)).any (·.1) = false) :
    PI X (.Tuple elts kk tpos) (.Call (.Name "zip" p) [e, e2, e3] [] pos) (iZ3 X.K ka kb kc ta) := by
  refine ⟨fun pins s σ H R I h => ?_⟩
  refine Call_ (ld_blt I hg hm PyProof.Rows.boot_zip (PyProof.Rows.callWith_type1 (thn (ha.run pos pins s σ H _ I h) fun us s1 ⟨vs, H1, I1, r1, q1⟩ => ?_) hs hpl))
  obtain ⟨a, b, c, xs, ys, zs, ex, q1, q2, q3, q⟩ := q1
  subst ex
  cases r1 with
  | cons r rr =>
    cases rr with
    | cons r' rr =>
      cases rr with
      | cons r'' rr =>
        cases rr
        cases r
        cases r'
        cases r''
        obtain ⟨its, rv, p1, l1⟩ := sqB_read I1 q1
        obtain ⟨its2, rv2, p2, l2⟩ := sqB_read I1 q2
        obtain ⟨its3, rv3, p3, l3⟩ := sqB_read I1 q3
        refine zip_begins3 (begins_B a its.toArray ka) (begins_B b its2.toArray kb) (begins_B c its3.toArray kc) p1 p2 p3 fun h' hz hTI hTO h1 h2 h3 hsz hk => wpAny_pyIter_zip hz ?_
        have I2 : Inv X pins σ H1 { s1 with heap := h' } := I1.kept (t' := s1.toks) hk
        refine ⟨_, _, _, _, H1, rfl, I2, turn_Z3 l1 l2 l3, ⟨hz, hTI, ⟨_, _, _, hTO⟩, itB_new h1, itB_new h2, itB_new h3⟩, fun d hd => ?_, q⟩
        have hle : s1.heap.objs.size ≤ d := by
          have e' : d = s1.heap.objs.size + 5 ∨ d = s1.heap.objs.size + 3 ∨ d = s1.heap.objs.size + 4 ∨ d = s1.heap.objs.size ∨ d = s1.heap.objs.size + 1 ∨ d = s1.heap.objs.size + 2 := by simpa using hd
          rcases e' with z | z | z | z | z | z <;> rw [z]
          · exact Nat.le_add_right _ _
          · exact Nat.le_add_right _ _
          · exact Nat.le_add_right _ _
          · exact Nat.le_refl _
          · exact Nat.le_add_right _ _
          · exact Nat.le_add_right _ _
        exact I1.fpOk hle (I1.hok.fresh hle)

/-! ### over data -/
section
variable {ι : Type} {W : Wd} {F : ι → Cx} {k : Nat} {Γ : SC} {e e2 e3 : Expr} {xs ys zs : List PyData} {pos p tpos : Pos} {elts : List Expr} {kk : Nat}
def seqD : Bool → List PyData → PyData
  | false, xs => .list xs
  | true, xs => .tuple xs
theorem dp_seq {K : PySem.W.Frag} {G H : Hp} {v : V} {ds : List PyData} (s : Same G H) : ∀ {b : Bool}, Dt K G v (seqD b ds) → ∃ a vs, v = .ref a ∧ SqB K b G a vs ∧ SqB K b H a vs ∧ DtAll K G vs ds
  | false, h => let ⟨a, vs, e, h1, h2⟩ := dp_lst h; ⟨a, vs, e, SqL.of h1, SqL.of (s _ _ h1), h2⟩
  | true, h => let ⟨a, vs, e, h1, h2⟩ := dp_tup h; ⟨a, vs, e, h1, sqt_up s h1, h2⟩
theorem sqB_up {K : PySem.W.Frag} {G G' : Hp} (e : Same G G') {a : Addr} {vs : List V} : ∀ {b : Bool}, SqB K b G a vs → SqB K b G' a vs
  | false, h => sql_up e h
  | true, h => sqt_up e h
def zip2D (xs ys : List PyData) : List PyData := (xs.zip ys).map fun p => .tuple [p.1, p.2]
def zip3D (xs ys zs : List PyData) : List PyData := (xs.zip (ys.zip zs)).map fun p => .tuple [p.1, p.2.1, p.2.2]
theorem ix_zip2 (ka kb : Bool) (fm : Fm W k F) (hg : ∀ j, Gl (F j) "zip") (hm : W.mg "zip" = none) (h1 : EX W F e Γ (seqD ka xs)) (h2 : EX W F e2 Γ (seqD kb ys))
    (hs : ∀ j, starEach [e, e2] (F j).env = (false, eval e (F j).env) :: starEach [e2] (F j).env := by exact fun _ => rfl) (hs2 : ∀ j, starEach [e2] (F j).env = (false, eval e2 (F j).env) :: starEach [] (F j).env := by exact fun _ => rfl) (hpl : ∀ j, (backTo pos (starEach [e2] (F j).env)).any (·.1) = false := by exact fun _ => rfl) :
    IX W F (.Tuple elts kk tpos) (.Call (.Name "zip" p) [e, e2] [] pos) Γ (zip2D xs ys) :=
  .of (t := iZ2 W.K ka kb (TAw F [e, e2])) (fun j => by rw [← fm.K j]; exact pi_Z2 (hg j) (by rw [fm.mg j]; exact hm) (pa_w j) (hs j) (hpl j)) fun σ G H en R q => by
    have ea : EA W F [e, e2] Γ [seqD ka xs, seqD kb ys] := ea_cons h1 (ea_cons h2 ea_nil hs2) hs
    refine ea σ G H en _ fun vs G1 H1 g1 d1 => ?_
    obtain ⟨v, w, rfl, dv, dw⟩ := dtAll2 d1
    obtain ⟨a, us, rfl, a1, a2, a3⟩ := dp_seq g1.sub dv
    obtain ⟨b, ws, rfl, b1, b2, b3⟩ := dp_seq g1.sub dw
    refine ⟨a, b, us, ws, rfl, a2, b2, q _ G1 H1 g1 fun G H e s => ?_⟩
    have s1 := sqB_up s (sqB_up e a1)
    have s2 := sqB_up s (sqB_up e b1)
    refine ⟨fun i y hy => ?_, us, ws, s1, s2, by unfold zip2D; rw [List.length_map, List.length_zip, a3.length, b3.length]⟩
    unfold zip2D at hy
    rw [List.getElem?_map] at hy
    obtain ⟨⟨x1, x2⟩, hz, rfl⟩ := Option.map_eq_some_iff.mp hy
    obtain ⟨z1, z2⟩ := List.getElem?_zip_eq_some.mp hz
    obtain ⟨v1, c1, d1⟩ := a3.at z1
    obtain ⟨v2, c2, d2⟩ := b3.at z2
    refine ⟨⟨us, ws, v1, v2, s1, s2, c1, c2⟩, fun x H' yl => ?_⟩
    obtain ⟨T, u1, u2, rfl, hT, rfl, f1, f2⟩ := yl
    cases Option.some.inj ((f1 _ s1).symm.trans c1)
    cases Option.some.inj ((f2 _ s2).symm.trans c2)
    have g := Gr.lay (o := .tup [v1, v2]) s hT
    exact ⟨_, g, .tup (SqT.of upd_same) (.cons ((d1.up e).up g.up) (.cons ((d2.up e).up g.up) .nil))⟩
theorem dtAll3 {K : PySem.W.Frag} {G : Hp} {vs : List V} {d d2 d3 : PyData} (h : DtAll K G vs [d, d2, d3]) : ∃ v w u, vs = [v, w, u] ∧ Dt K G v d ∧ Dt K G w d2 ∧ Dt K G u d3 := by
  cases h with
  | cons h t => obtain ⟨w, u, rfl, h2, h3⟩ := dtAll2 t; exact ⟨_, w, u, rfl, h, h2, h3⟩
theorem ix_zip3 (ka kb kc : Bool) (fm : Fm W k F) (hg : ∀ j, Gl (F j) "zip") (hm : W.mg "zip" = none) (h1 : EX W F e Γ (seqD ka xs)) (h2 : EX W F e2 Γ (seqD kb ys)) (h3 : EX W F e3 Γ (seqD kc zs))
    (hs : ∀ j, starEach [e, e2, e3] (F j).env = (false, eval e (F j).env) :: starEach [e2, e3] (F j).env := by exact fun _ => rfl) (hs2 : ∀ j, starEach [e2, e3] (F j).env = (false, eval e2 (F j).env) :: starEach [e3] (F j).env := by exact fun _ => rfl)
    (hs3 : ∀ j, starEach [e3] (F j).env = (false, eval e3 (F j).env) :: starEach [] (F j).env := by exact fun _ => rfl) (hpl : ∀ j, (backTo pos (starEach [e2, e3] (F j).env)).any (·.1) = false := by exact fun _ => rfl) :
    IX W F (.Tuple elts kk tpos) (.Call (.Name "zip" p) [e, e2, e3] [] pos) Γ (zip3D xs ys zs) :=
  .of (t := iZ3 W.K ka kb kc (TAw F [e, e2, e3])) (fun j => by rw [← fm.K j]; exact pi_Z3 (hg j) (by rw [fm.mg j]; exact hm) (pa_w j) (hs j) (hpl j)) fun σ G H en R q => by
    have ea : EA W F [e, e2, e3] Γ [seqD ka xs, seqD kb ys, seqD kc zs] := ea_cons h1 (ea_cons h2 (ea_cons h3 ea_nil hs3) hs2) hs
    refine ea σ G H en _ fun vs G1 H1 g1 d1 => ?_
    obtain ⟨v, w, u, rfl, dv, dw, du⟩ := dtAll3 d1
    obtain ⟨a, us, rfl, a1, a2, a3⟩ := dp_seq g1.sub dv
    obtain ⟨b, ws, rfl, b1, b2, b3⟩ := dp_seq g1.sub dw
    obtain ⟨c, ts, rfl, c1, c2, c3⟩ := dp_seq g1.sub du
    refine ⟨a, b, c, us, ws, ts, rfl, a2, b2, c2, q _ G1 H1 g1 fun G H e s => ?_⟩
    have s1 := sqB_up s (sqB_up e a1)
    have s2 := sqB_up s (sqB_up e b1)
    have s3 := sqB_up s (sqB_up e c1)
    refine ⟨fun i y hy => ?_, us, ws, ts, s1, s2, s3, by unfold zip3D; rw [List.length_map, List.length_zip, List.length_zip, a3.length, b3.length, c3.length, Nat.min_assoc]⟩
    unfold zip3D at hy
    rw [List.getElem?_map] at hy
    obtain ⟨⟨x1, x2, x3⟩, hz, rfl⟩ := Option.map_eq_some_iff.mp hy
    obtain ⟨z1, z23⟩ := List.getElem?_zip_eq_some.mp hz
    obtain ⟨z2, z3⟩ := List.getElem?_zip_eq_some.mp z23
    obtain ⟨v1, y1, d1⟩ := a3.at z1
    obtain ⟨v2, y2, d2⟩ := b3.at z2
    obtain ⟨v3, y3, d3⟩ := c3.at z3
    refine ⟨⟨us, ws, ts, v1, v2, v3, s1, s2, s3, y1, y2, y3⟩, fun x H' yl => ?_⟩
    obtain ⟨T, u1, u2, u3, rfl, hT, rfl, f1, f2, f3⟩ := yl
    cases Option.some.inj ((f1 _ s1).symm.trans y1)
    cases Option.some.inj ((f2 _ s2).symm.trans y2)
    cases Option.some.inj ((f3 _ s3).symm.trans y3)
    have g := Gr.lay (o := .tup [v1, v2, v3]) s hT
    exact ⟨_, g, .tup (SqT.of upd_same) (.cons ((d1.up e).up g.up) (.cons ((d2.up e).up g.up) (.cons ((d3.up e).up g.up) .nil)))⟩
end
end TW
/-! Part 7: dicts with nested keys. -/
namespace TW
open PySem PySem.Spec PyProof.Rows L2

def hasD (kvs : List (PyData × PyData)) (k : PyData) : Bool := kvs.any fun kv => decide (toKey kv.1 = toKey k)
def getDk (kvs : List (PyData × PyData)) (k : PyData) : Option PyData := (kvs.find? fun kv => decide (toKey kv.1 = toKey k)).map (·.2)
section
variable {K : PySem.W.Frag} {G : Hp}
theorem ent_has {kvs : List (PyData × PyData)} {xs : List (NestedKey × Addr × Value)} (h : Paired (EntOk K G) kvs xs) (k : PyData) : (atKey xs (toKey k)).isSome = hasD kvs k := by
  induction h with
  | nil => rfl
  | @cons kv x kvs xs r t ih =>
    obtain ⟨e, _⟩ := r
    unfold hasD at ih ⊢
    unfold atKey at ih ⊢
    rw [List.find?_cons, List.any_cons, ← e]
    by_cases q : toKey kv.1 = toKey k
    · rw [decide_eq_true q]
      rfl
    · rw [decide_eq_false q]
      exact ih
theorem ent_get {kvs : List (PyData × PyData)} {xs : List (NestedKey × Addr × Value)} (h : Paired (EntOk K G) kvs xs) {k v : PyData} : getDk kvs k = some v → ∃ p, atKey xs (toKey k) = some p ∧ ∃ u, RelV u p.2 ∧ Dt K G u v := by
  induction h with
  | nil => intro q; cases q
  | @cons kv x kvs xs r t ih =>
    intro g
    obtain ⟨e, _, _, u, h1, h2⟩ := r
    unfold getDk at g ih
    unfold atKey at ih ⊢
    rw [List.find?_cons] at g ⊢
    rw [← e]
    by_cases q : toKey kv.1 = toKey k
    · rw [decide_eq_true q] at g ⊢
      have : kv.2 = v := Option.some.inj g
      subst this
      exact ⟨_, rfl, u, h1, h2⟩
    · rw [decide_eq_false q] at g ⊢
      exact ih g
theorem paired_get {α β : Type} {R : α → β → Prop} : ∀ {l : List α} {m : List β} {i : Nat} {a : α}, Paired R l m → l[i]? = some a → ∃ b, m[i]? = some b ∧ R a b
  | _, _, _, _, .nil, h => by simp at h
  | _, _, 0, _, .cons q _, h => by simp at h; subst h; exact ⟨_, rfl, q⟩
  | _, _, i + 1, _, .cons _ t, h => by
    obtain ⟨b, h1, h2⟩ := paired_get (i := i) t (by simpa using h)
    exact ⟨b, by simpa using h1, h2⟩
theorem paired_snoc {α β : Type} {R : α → β → Prop} {a : α} {b : β} (r : R a b) : ∀ {l : List α} {m : List β}, Paired R l m → Paired R (l ++ [a]) (m ++ [b])
  | _, _, .nil => .cons r .nil
  | _, _, .cons q t => .cons q (paired_snoc r t)
theorem NDo.stay {P : Program} {w : World} {d : Addr} {xs : List (NestedKey × Addr × Value)} : ∀ h1 h2 : Heap, NDo P w d xs h1 → (∀ o, h1.get? d = some o → h2.get? d = some o) → NDo P w d xs h2 :=
  fun h1 h2 ⟨o, es, ep, e, r⟩ k => ⟨o, es, ep, k _ e, r⟩
theorem NDo.ok {P : Program} {w : World} {H : Hp} {h : Heap} {d : Addr} {xs : List (NestedKey × Addr × Value)} (x : NDo P w d xs h) : ObjOk P w H h d (.ext (NDo P w d xs)) :=
  ⟨x, (let ⟨o, _, _, e, _⟩ := x; ⟨o, e⟩), NDo.stay⟩
end
section
variable {W : Wd} {X : Cx} {pins : List (Addr × Obj)} {σ : L2.St} {G H : Hp} {s : Shared} {kvs : List (PyData × PyData)} {d a : Addr} {key : PyData}
theorem key_is (I : Inv X pins σ H s) (hP : X.prog = W.P) (hw : X.w = W.w) (hK : X.K = W.K) (sub : Same G H) (k : isKey key) (h : Dt W.K G (.ref a) key) : (nestedKind W.P W.w).is s.heap (toKey key) a := by
  obtain ⟨as, r⟩ := Dp.reads I key (.ref a) (.ref a) (by rw [hK]; exact dt_dp sub _ _ h) rfl
  exact ⟨reads_key key _ _ r k.1, k.2⟩
theorem nd_heap (I : Inv X pins σ H s) (hP : X.prog = W.P) (hw : X.w = W.w) (hK : X.K = W.K) (sub : Same G H) (nd : ND W G H d kvs) :
    ∃ xs, H d = some (.ext (NDo W.P W.w d xs)) ∧ Paired (EntOk W.K G) kvs xs ∧ s.heap.DictOfH (nestedKind W.P W.w) d xs ∧ xs.length = kvs.length := by
  obtain ⟨_, z, xs, h1, h2, h3⟩ := nd
  have hn : NDo W.P W.w d xs s.heap := (I.hok d _ h1).1
  obtain ⟨o, es, ep, e1, e2, e3, e4⟩ := hn
  refine ⟨xs, h1, h3, ⟨o, es, ep, e1, e2, e3, e4, ?_, h2⟩, h3.length.symm⟩
  clear e4 h1 h2 z
  induction h3 with
  | nil => intro x hx; cases hx
  | @cons kv x kvs xs r t ih =>
    intro y hy
    rcases List.mem_cons.mp hy with rfl | hy
    · obtain ⟨q1, q2, q3, _⟩ := r
      rw [← q1]
      exact key_is I hP hw hK sub q2 q3
    · exact ih y hy
theorem room8 {A : Around} {k : Nat} (h : Room k A) : (nestedKind W.P W.w).room A.in1 := by
  show A.in1.units + 8 < cLine
  have h1 := h.units
  have h2 : A.in1.units = A.units + 1 := rfl
  omega
/-- k not in d -/
def rNinD (W : Wd) (neg : Bool) : R2 := fun x y H Q => ∃ a d key kvs G, x = .ref a ∧ y = .ref d ∧ Same G H ∧ isKey key ∧ Dt W.K G (.ref a) key ∧ ND W G H d kvs ∧ Q (.bl (if neg then !hasD kvs key else hasD kvs key)) H
theorem op_ninD {k : Nat} (hP : X.prog = W.P) (hw : X.w = W.w) (hK : X.K = W.K) (hr : Room k X.A) : OpR X (compareOp .NotIn) (rNinD W true) := by
  intro pins s σ H x y v u Q I rx ry h
  obtain ⟨a, d, key, kvs, G, rfl, rfl, sub, ik, dk, nd, q⟩ := h
  cases rx
  cases ry
  obtain ⟨xs, h1, h2, h3, _⟩ := nd_heap I hP hw hK sub nd
  have ki := key_is I hP hw hK sub ik dk
  show wpAny _ _ (do return Value.bool (!(← contains (.ref d) (.ref a)))) _ _ s
  rw [hP, hw]
  refine wpAny_bind (wpAny_contains_heap (knd := nestedKind W.P W.w) (room8 hr) ki nd.nsys h3 (wpAny_pure ?_))
  rw [ent_has h2]
  exact ⟨.bl _, H, I.tok _, rfl, q⟩
/-- d[k] -/
def rGetD (W : Wd) : R2 := fun x y H Q => ∃ d a key kvs G val, x = .ref d ∧ y = .ref a ∧ Same G H ∧ isKey key ∧ Dt W.K G (.ref a) key ∧ ND W G H d kvs ∧ getDk kvs key = some val ∧ ∀ v, Dt W.K G v val → Q v H
theorem ix_getD {k : Nat} (hP : X.prog = W.P) (hw : X.w = W.w) (hK : X.K = W.K) (hr : Room k X.A) : IxR X (rGetD W) := by
  intro value slice pins s σ H x y v u Q I rx ry h hs
  obtain ⟨d, a, key, kvs, G, val, rfl, rfl, sub, ik, dk, nd, hg, q⟩ := h
  cases rx
  cases ry
  obtain ⟨xs, h1, h2, h3, _⟩ := nd_heap I hP hw hK sub nd
  have ki := key_is I hP hw hK sub ik dk
  obtain ⟨p, hp, w, rw', dw⟩ := ent_get h2 hg
  refine PyProof.Rows.tail_any h3.typeIs PySem.F.slot_dict_getitem.lookup ?_ hs
  rw [hP, hw]
  exact wpAny_getItem_heap (knd := nestedKind W.P W.w) (room8 hr) ki h3 hp ⟨w, H, I.tok _, rw', q w dw⟩
/-- d[k] = v, k not there -/
def rPutD (W : Wd) : TSet := fun o i v H Q => ∃ d a key kvs G val, o = .ref d ∧ i = .ref a ∧ Same G H ∧ isKey key ∧ Dt W.K G (.ref a) key ∧ ND W G H d kvs ∧ hasD kvs key = false ∧ Dt W.K G v val ∧ kvs.length < sizeLine ∧
  ∀ xs, (∀ G' H', Same G G' → H' d = some (.ext (NDo W.P W.w d xs)) → ND W G' H' d (kvs ++ [(key, val)])) → Q (upd H d (.ext (NDo W.P W.w d xs)))
theorem set_putD {k : Nat} (hP : X.prog = W.P) (hw : X.w = W.w) (hK : X.K = W.K) (hr : Room k X.A) : PSet X (rPutD W) := by
  intro pins s σ H o i v ov iv u Q I ro ri rv h
  obtain ⟨d, a, key, kvs, G, val, rfl, rfl, sub, ik, dk, nd, hno, dv, hz, q⟩ := h
  cases ro
  cases ri
  obtain ⟨xs, h1, h2, h3, h4⟩ := nd_heap I hP hw hK sub nd
  have ki := key_is I hP hw hK sub ik dk
  have hat : atKey xs (toKey key) = none := by
    have := ent_has h2 key
    rw [hno] at this
    cases e : atKey xs (toKey key) with
    | none => rfl
    | some p => rw [e] at this; cases this
  rw [hP, hw]
  refine wpAny_setItem_heap (knd := nestedKind W.P W.w) (room8 hr) ki h3 (fun h' hd' hs => ?_) (by rw [h4]; exact Nat.le_of_lt hz)
  rw [storedH_new hat] at hd'
  obtain ⟨ob, es, ep, e1, e2, e3, e4, _, e6⟩ := hd'
  have ok : NDo W.P W.w d (xs ++ [(toKey key, a, u)]) h' := ⟨ob, es, ep, e1, e2, e3, e4⟩
  have I2 : Inv X pins σ (upd H d (.ext (NDo W.P W.w d (xs ++ [(toKey key, a, u)])))) { s with heap := h', toks := s.toks + (nestedKind W.P W.w).draws (toKey key) } :=
    I.write (e := d) (by rw [h1]; exact True.intro) (.inl rfl) (fun b w hb e => (hs.2 b hb).trans e) ⟨ob, e1⟩ (by rw [hP, hw]; exact ok.ok)
  refine ⟨_, I2, q _ fun G' H' up e => ⟨nd.nsys, by rw [List.length_append]; exact hz, _, e, e6, ?_⟩⟩
  refine paired_snoc ⟨rfl, ik, dk.up up, v, rv, dv.up up⟩ (Paired.mapP h2 fun _ _ ⟨a, b, c, w, r, q⟩ => ⟨a, b, c.up up, w, r, q.up up⟩)
/-- {} -/
def tNewD (W : Wd) : TE := fun _ H Q => ∀ p, H p = none → (p == sysModules) = false → Q (.ref p) (upd H p (.ext (NDo W.P W.w p [])))
theorem pe_newD {pos : Pos} (hP : X.prog = W.P) (hw : X.w = W.w) : PE X (.Dict [] [] pos) (tNewD W) := ⟨fun pins s σ H Q I h => by
  have ok : NDo W.P W.w s.heap.objs.size [] (s.heap.push { cls := .type "dict", data := .dict #[] }) := by
    obtain ⟨o, es, ep, e1, e2, e3, e4, _⟩ := Heap.DictOfH.new (knd := nestedKind W.P W.w) s.heap
    exact ⟨o, es, ep, e1, e2, e3, e4⟩
  exact wpAny_Dict_empty ⟨.ref s.heap.objs.size, _, I.laid (a := s.heap.objs.size) (o := .ext (NDo W.P W.w s.heap.objs.size [])) (t' := s.toks) (fun _ _ q => Heap.get?_push_of_some _ q) (Nat.le_refl _) (by rw [hP, hw]; exact ok.ok), rfl,
    h _ (I.hok.fresh (Nat.le_refl _)) (beq_eq_false_iff_ne.mpr (Nat.ne_of_gt I.big))⟩⟩
end

/-! ### over data -/
section
variable {ι : Type} {W : Wd} {F : ι → Cx} {k : Nat} {Γ : SC} {e ke : Expr} {key val d : PyData} {kvs : List (PyData × PyData)} {pos p : Pos}
theorem Nv.dk {G H : Hp} {σ : L2.St} (x : Nv W G H σ Γ) {i : Nat} (h : Γ[i]? = some (.dk kvs)) : ∃ a, σ[i]? = some (some (.ref a)) ∧ G a = none ∧ ND W G H a kvs := by
  obtain ⟨v, h1, a, rfl, h2⟩ := x.at' i _ h (by intro z; cases z)
  exact ⟨a, h1, h2⟩
theorem Nv.dr {G H : Hp} {σ : L2.St} (x : Nv W G H σ Γ) {i : Nat} (h : Γ[i]? = some (.dr kvs)) : ∃ a, σ[i]? = some (some (.ref a)) ∧ ND W G H a kvs := by
  obtain ⟨v, h1, a, rfl, h2⟩ := x.at' i _ h (by intro z; cases z)
  exact ⟨a, h1, h2⟩
theorem Nv.drk {G H : Hp} {σ : L2.St} (x : Nv W G H σ Γ) {i : Nat} (h : Γ[i]? = some (.dr kvs) ∨ Γ[i]? = some (.dk kvs)) : ∃ a, σ[i]? = some (some (.ref a)) ∧ ND W G H a kvs := by
  rcases h with h | h
  · exact x.dr h
  · obtain ⟨a, h1, _, h2⟩ := x.dk h
    exact ⟨a, h1, h2⟩
theorem dt_key {K : PySem.W.Frag} {G : Hp} {v : V} {ds : List PyData} (h : Dt K G v (.tuple ds)) : ∃ a, v = .ref a := by obtain ⟨a, _, e, _⟩ := dp_tup h; exact ⟨a, e⟩
/-- k not in d -/
theorem eb_nin {nm : Str} {ds : List PyData} (i : Nat) (fm : Fm W k F) (hi : ∀ j, (F j).N[i]? = some nm) (hv : ∀ j, Vis (F j).env.scope nm) (h : Γ[i]? = some (.dk kvs)) (hk : EX W F ke Γ (.tuple ds)) (ik : isKey (.tuple ds)) (hm : behindInMarks .NotIn (.Name nm p) = false := by rfl)
    (hd : (nm == ("__debug__" : Str)) = false := by decide) (hcd : (nm == ("__classdict__" : Str)) = false := by decide) : EB W F (.Compare ke [.NotIn] [.Name nm p] pos) Γ (!hasD kvs (.tuple ds)) :=
  .of (fun j => pt_cmpR (op_ninD (fm.prog j) (fm.w j) (fm.K j) (fm.room j)) (pe_w j) (pe_var (hi j) (hv j) hd hcd) hm) fun σ G H en Q q => hk σ G H en _ fun v G1 H1 g1 d1 => by
    obtain ⟨a, rfl⟩ := dt_key d1
    obtain ⟨d, e1, _, nd⟩ := (en.gr g1).dk h
    exact ⟨.ref d, e1, a, d, _, kvs, G1, rfl, rfl, g1.sub, ik, d1, nd, _, rfl, q G1 H1 g1⟩
/-- d[k] -/
theorem ex_getD {nm : Str} {ds : List PyData} (i : Nat) (fm : Fm W k F) (hi : ∀ j, (F j).N[i]? = some nm) (hv : ∀ j, Vis (F j).env.scope nm) (h : Γ[i]? = some (.dr kvs) ∨ Γ[i]? = some (.dk kvs)) (hk : EX W F ke Γ (.tuple ds)) (ik : isKey (.tuple ds)) (hg : getDk kvs (.tuple ds) = some val) (hs : PlainIx ke := by exact fun _ _ => rfl)
    (hd : (nm == ("__debug__" : Str)) = false := by decide) (hcd : (nm == ("__classdict__" : Str)) = false := by decide) : EX W F (.Subscript (.Name nm p) ke pos) Γ val :=
  .of (fun j => pe_ix (ix_getD (fm.prog j) (fm.w j) (fm.K j) (fm.room j)) (pe_var (hi j) (hv j) hd hcd) (pe_w j) hs) fun σ G H en Q q => by
    obtain ⟨d, e1, _⟩ := en.drk h
    refine ⟨.ref d, e1, hk σ G H en _ fun v G1 H1 g1 d1 => ?_⟩
    obtain ⟨a, rfl⟩ := dt_key d1
    obtain ⟨d', e2, nd⟩ := (en.gr g1).drk h
    rw [e1] at e2
    cases e2
    exact ⟨d, a, _, kvs, G1, val, rfl, rfl, g1.sub, ik, d1, nd, hg, fun w dw => q w G1 H1 g1 dw⟩
/-- an owned dict changes -/
theorem Nv.writeD {G H : Hp} {σ : L2.St} {i : Nat} {a : Addr} {kvs' : List (PyData × PyData)} {o : HO} (en : Nv W G H σ Γ) (h : Γ[i]? = some (.dk kvs)) (e1 : σ[i]? = some (some (.ref a))) (e3 : G a = none) (nd : ND W G (upd H a o) a kvs') :
    Mr (Own σ Γ) G H G (upd H a o) ∧ Nv W G (upd H a o) σ (Γ.set i (.dk kvs')) ∧ (∀ l', Own σ (Γ.set i (.dk kvs')) l' → Own σ Γ l') := by
  have hi : i < Γ.length := (List.getElem?_eq_some_iff.mp h).1
  have sub : Same G (upd H a o) := fun b u q => by
    rw [upd_ne (ne_of_none q e3)]
    exact en.sub b u q
  have at1 : ∀ {j : Nat} {s : Slot}, (Γ.set i (.dk kvs'))[j]? = some s → (j = i ∧ s = .dk kvs') ∨ (j ≠ i ∧ Γ[j]? = some s) := fun {j s} q => by
    by_cases hj : i = j
    · subst hj
      rw [List.getElem?_set_self hi] at q
      exact .inl ⟨rfl, (Option.some.inj q).symm⟩
    · rw [List.getElem?_set_ne hj] at q
      exact .inr ⟨fun z => hj z.symm, q⟩
  refine ⟨⟨fun b u q n => ?_, Same.refl _, sub, fun b q r => absurd q r, fun b q => ?_⟩, ⟨sub, by simpa using en.len, fun j s q r => ?_, fun j j' s s' l' hjj q1 q2 p1 p2 => ?_⟩, fun l' q => ?_⟩
  · rw [upd_ne fun z => n (by subst z; exact ⟨i, _, h, rfl, e1⟩)]
    exact q
  · by_cases hb : b = a
    · subst hb; rw [upd_same] at q; cases q
    · rw [upd_ne hb] at q; exact q
  · rcases at1 q with ⟨rfl, rfl⟩ | ⟨hj, q⟩
    · exact ⟨_, e1, a, rfl, e3, nd⟩
    · obtain ⟨v, r1, r2⟩ := en.at' j s q r
      refine ⟨v, r1, ?_⟩
      have ap : ∀ l', s.ptr = true → v = .ref l' → l' ≠ a := fun l' hp hv' z => by
        subst z
        exact en.apart i j (.dk kvs) s l' (fun z => hj z.symm) h q rfl hp e1 (by rw [r1, hv'])
      cases s with
      | un => trivial
      | im d => exact r2
      | mu es =>
        obtain ⟨l', us, rfl, q1, q2, q3⟩ := r2
        exact ⟨l', us, rfl, by rw [upd_ne (ap l' rfl rfl)]; exact q1, q2, q3⟩
      | dk ks =>
        obtain ⟨d', rfl, q1, q2⟩ := r2
        exact ⟨d', rfl, q1, q2.up (Same.refl _) fun u z => by rw [upd_ne (ap d' rfl rfl)]; exact z⟩
      | dr ks =>
        obtain ⟨d', rfl, q2⟩ := r2
        exact ⟨d', rfl, q2.up (Same.refl _) fun u z => by rw [upd_ne (ap d' rfl rfl)]; exact z⟩
      | sq ns => exact r2
  · have q1' : ∃ t, Γ[j]? = some t ∧ t.ptr = true := by
      rcases at1 q1 with ⟨rfl, rfl⟩ | ⟨_, q1⟩
      · exact ⟨_, h, rfl⟩
      · exact ⟨_, q1, p1⟩
    have q2' : ∃ t, Γ[j']? = some t ∧ t.ptr = true := by
      rcases at1 q2 with ⟨rfl, rfl⟩ | ⟨_, q2⟩
      · exact ⟨_, h, rfl⟩
      · exact ⟨_, q2, p2⟩
    obtain ⟨t, a1, a2⟩ := q1'
    obtain ⟨t', b1, b2⟩ := q2'
    exact en.apart j j' t t' l' hjj a1 b1 a2 b2
  · obtain ⟨j, s, q1, q2, q3⟩ := q
    rcases at1 q1 with ⟨rfl, rfl⟩ | ⟨_, q1⟩
    · exact ⟨j, _, h, rfl, q3⟩
    · exact ⟨j, s, q1, q2, q3⟩
/-- d[k] = e, k not there -/
theorem sx_putD {nm : Str} {tp : Pos} {ds : List PyData} (i : Nat) (fm : Fm W k F) (hi : ∀ j, (F j).N[i]? = some nm) (hv : ∀ j, Vis (F j).env.scope nm) (h : Γ[i]? = some (.dk kvs)) (hk : EX W F ke Γ (.tuple ds)) (ik : isKey (.tuple ds)) (hno : hasD kvs (.tuple ds) = false) (hz : kvs.length < sizeLine) (he : EX W F e Γ d)
    (ha : ∀ t v, assign (.Subscript (.Name nm p) ke tp) (F t).env v = (do
      let ov ← holding [v] (eval (.Name nm p) (F t).env)
      let iv ← holding [v, ov] (eval ke (F t).env)
      standAt tp
      holding [v, ov, iv] (setItem ov iv v)
      release [v, ov, iv] []) := by exact fun _ _ => rfl)
    (hs : ∀ t, swapsWithSole [.Subscript (.Name nm p) ke tp] e pos.line (F t).env = pure false := by exact fun _ => rfl) (hw : ∀ t, swappedStores [.Subscript (.Name nm p) ke tp] e (F t).env = pure none := by exact fun _ => rfl)
    (h1 : ∀ t, (assignEach [.Subscript (.Name nm p) ke tp] (F t).env).map (·.2) = [assign (.Subscript (.Name nm p) ke tp) (F t).env] := by exact fun _ => rfl)
    (hd : (nm == ("__debug__" : Str)) = false := by decide) (hcd : (nm == ("__classdict__" : Str)) = false := by decide) :
    SX W F (.Assign [.Subscript (.Name nm p) ke tp] e pos) Γ (.nx (Γ.set i (.dk (kvs ++ [(.tuple ds, d)])))) :=
  .of (t := tAsg (TEw F e) (gSub (tVar i) (TEw F ke) (rPutD W))) (fun t => ps_asg (pe_w t) (pg_sub (pe_var (hi t) (hv t) hd hcd) (pe_w t) (set_putD (fm.prog t) (fm.w t) (fm.K t) (fm.room t)) (ha t)) (hs t) (hw t) (h1 t)) fun σ G H en D q =>
    he σ G H en _ fun v G1 H1 g1 d1 => by
      obtain ⟨a, e1, e3, nd⟩ := en.dk h
      refine ⟨.ref a, e1, hk σ G1 H1 (en.gr g1) _ fun w G2 H2 g2 d2 => ?_⟩
      obtain ⟨b, rfl⟩ := dt_key d2
      have g := g1.trans g2
      obtain ⟨a', e1', n2, nd2⟩ := (en.gr g).dk h
      rw [e1] at e1'
      cases e1'
      refine ⟨a, b, _, kvs, G2, d, rfl, rfl, g.sub, ik, d2, nd2, hno, d1.up g2.up, hz, fun xs mk => ?_⟩
      obtain ⟨m, en2, ow⟩ := (en.gr g).writeD (o := .ext (NDo W.P W.w a xs)) h e1 n2 (mk G2 _ (Same.refl _) upd_same)
      exact q σ G2 _ (g.mr.trans m fun l' ol => .inl ol) en2 fun l' ol => .inl (ow l' ol)
/-- name = {} -/
theorem Nv.setNewD {G H G' H' : Hp} {σ : L2.St} {a : Addr} (en : Nv W G H σ Γ) (i : Nat) (h0 : H a = none) (g : Gr G H G' H') (h1 : G' a = none) (nd : ND W G' H' a kvs) : Nv W G' H' (σ.set i (some (.ref a))) (Γ.set i (.dk kvs)) := by
  refine (en.gr g).set ⟨a, rfl, h1, nd⟩ fun _ l' e j t hj ht hp z => ?_
  cases e
  obtain ⟨v, r1, r2⟩ := en.at' j t ht (by intro w; subst w; cases hp)
  rw [z] at r1
  cases r1
  cases t with
  | un => cases hp
  | im _ => cases hp
  | mu es => obtain ⟨l', ws, e, q1, _⟩ := r2; cases e; rw [h0] at q1; cases q1
  | dk ks => obtain ⟨d', e, _, nd⟩ := r2; cases e; obtain ⟨_, _, xs, q1, _⟩ := nd; rw [h0] at q1; cases q1
  | dr ks => obtain ⟨d', e, nd⟩ := r2; cases e; obtain ⟨_, _, xs, q1, _⟩ := nd; rw [h0] at q1; cases q1
  | sq _ => cases hp
theorem sx_newD {nm : Str} (i : Nat) (fm : Fm W k F) (hi : ∀ j, (F j).N[i]? = some nm) (hx : ∀ j, Loc (F j).env.scope nm) (hf : ∀ j, (F j).fn nm = true ∨ (F j).env.scope.names.lookup nm = some .local) {pe : Pos}
    (hs : ∀ j, swapsWith (.Dict [] [] pe) (some (.Name nm p)) pos.line (F j).env = pure false := by exact fun _ => rfl) : SX W F (.Assign [.Name nm p] (.Dict [] [] pe) pos) Γ (.nx (Γ.set i (.dk []))) :=
  .of (fun j => ps_set (fm.nd j) (hi j) (hx j) (pe_newD (W := W) (fm.prog j) (fm.w j)) (hs j) (hf j)) fun σ G H en D q => fun a h0 hsys => by
    have g := Gr.own (o := .ext (NDo W.P W.w a [])) en.sub h0
    refine q _ G _ g.mr (en.setNewD i h0 g (en.sub.free h0) ⟨hsys, Nat.zero_le _, [], upd_same, List.nodup_nil, .nil⟩) fun l' ol => ?_
    rcases own_set ol with r | ⟨_, r⟩
    · exact .inl r
    · cases r; exact .inr h0
end
end TW
/-! Part 8: max and min with a default. -/
namespace TW
open PySem PySem.Spec PyProof.Rows L2

/-! ### max(xs, default=d) of a list -/
theorem argsD_max (a v : Value) : argsOk "max" ⟨[a], [(Str.ofString "default", v)]⟩ := by unfold argsOk; kernel_rfl
section
variable {prog : Program} {w : World} {A : Around} {R : Result → Shared → Prop} {I S : Addr} {fp wr : List Addr} {n : Nat} {Pv : Nat → Value → Prop} {St : Nat → Heap → Prop} {bt : Nat → Nat → Bool} {dv : Value}
theorem nm_max : (toString "max" ++ toString ".loop" : String) = "max.loop" := by decide
/-- the loop behind its first item -/
theorem turnD_max (Wk : Walks prog w A.in1 I fp wr n Pv St) (cmp : CmpOf prog w A.in1 .Gt Pv bt) (nS : S ∉ fp) : ∀ (r j : Nat) (t : Shared) (b : Value) (c : Nat), n = j + 1 + r → St (j + 1) t.heap → Pv (argBest bt j) b →
    t.heap.get? S = some { cls := .type "list", dict := none, data := .seq #[b, b] c, slots := #[] } →
    (∀ v g tk, Pv (argBest bt (n - 1)) v → (∀ q o, q ∉ wr → q ≠ S → t.heap.get? q = some o → g.get? q = some o) → R (.ok (.ret v)) { t with heap := g, toks := tk }) →
    codeAny (model prog w) A (.builtin "max.loop" ⟨[.ref I, .none, .ref S], [("default", dv)]⟩) R t
  | 0, j, t, b, c, en, st, pb, eS, fin => by
    refine codeAny_builtin PySem.F.entry_max_loop (?_ : wpAny _ _ _ _ _ t)
    rw [Around.under_plainId PySem.F.plain_max_loop _]
    refine (wpAny_bind (wpAny_seqItems eS rfl ?_) : wpAny _ A.in1 (seqItems? (.ref S) >>= _) _ _ t)
    show wpAny _ A.in1 (tryCatch (pyNext (.ref I)) _ >>= _) _ _ t
    refine wpAny_bind (wpAny_tryCatch (Wk.done t _ _ (by have e : n = j + 1 := en; rw [e]; exact st) fun g tk kp => ?_))
    have eS2 := kp S _ (fun z => nS (Wk.sub _ z)) eS
    show wpAny _ A.in1 (updateSeq S (fun _ => #[]) >>= _) _ _ _
    refine wpAny_bind (wpAny_updateSeq eS2 rfl (wpAny_bind (wpAny_letGo (wpAny_pure (fin b _ tk ?_ fun q o q1 q2 e => ?_)))))
    · have e : n - 1 = j := by omega
      rw [e]
      exact pb
    · exact (Heap.get?_update_other _ _ (fun z => q2 z.symm)).trans (kp q o q1 e)
  | r + 1, j, t, b, c, en, st, pb, eS, fin => by
    refine codeAny_builtin PySem.F.entry_max_loop (?_ : wpAny _ _ _ _ _ t)
    rw [Around.under_plainId PySem.F.plain_max_loop _]
    refine (wpAny_bind (wpAny_seqItems eS rfl ?_) : wpAny _ A.in1 (seqItems? (.ref S) >>= _) _ _ t)
    show wpAny _ A.in1 (tryCatch (pyNext (.ref I)) _ >>= _) _ _ t
    refine wpAny_bind (wpAny_tryCatch (Wk.item (j + 1) t _ _ (by omega) st fun v g tk pv st2 kp => ?_))
    have eS2 := kp S _ (fun z => nS (Wk.sub _ z)) eS
    show wpAny _ A.in1 (tryCatch (holding [v, v] (richCompare .Gt v b >>= _)) _ >>= _) _ _ _
    refine wpAny_bind (wpAny_tryCatch (wpAny_holding (wpAny_bind (cmp (j + 1) (argBest bt j) v b _ _ _ pv pb (wpAny_bind (wpAny_holding (wpAny_truthy_bool (wpAny_bind (wpAny_letGo (wpAny_pure ?_)))))))))) 
    by_cases hb : bt (j + 1) (argBest bt j) = true
    · rw [hb]
      simp only [if_true]
      refine wpAny_bind (wpAny_updateSeq eS2 rfl (wpAny_bind (wpAny_letGo ?_)))
      rw [nm_max]
      refine wpAny_pure ⟨plainId_quiet PySem.F.plain_max_loop _, turnD_max Wk cmp nS r (j + 1) _ v _ (by omega) (Wk.frame _ _ _ st2 fun q hq o e => ?_) (by simp only [argBest, hb, if_true]; exact pv) (Heap.get?_update_self _ eS2 rfl) fun v2 g2 tk2 p2 k2 => ?_⟩
      · exact (Heap.get?_update_other _ _ (fun z : S = q => nS (z ▸ hq))).trans e
      · exact fin v2 g2 tk2 p2 fun q o q1 q2 e => k2 q o q1 q2 ((Heap.get?_update_other _ _ (fun z => q2 z.symm)).trans (kp q o q1 e))
    · have hb2 : bt (j + 1) (argBest bt j) = false := by simpa using hb
      rw [hb2]
      simp only [Bool.false_eq_true, if_false]
      refine wpAny_bind (wpAny_letGo ?_)
      rw [nm_max]
      refine wpAny_pure ⟨plainId_quiet PySem.F.plain_max_loop _, turnD_max Wk cmp nS r (j + 1) _ b c (by omega) st2 (by simp only [argBest, hb2, Bool.false_eq_true, if_false]; exact pb) eS2 fun v2 g2 tk2 p2 k2 => ?_⟩
      exact fin v2 g2 tk2 p2 fun q o q1 q2 e => k2 q o q1 q2 (kp q o q1 e)
/-- the loop at its first turn -/
theorem firstD_max (Wk : Walks prog w A.in1 I fp wr n Pv St) (cmp : CmpOf prog w A.in1 .Gt Pv bt) (nS : S ∉ fp) {t : Shared} {c : Nat} (st : St 0 t.heap) (eS : t.heap.get? S = some { cls := .type "list", dict := none, data := .seq #[] c, slots := #[] })
    (non : n = 0 → ∀ g tk, (∀ q o, q ∉ wr → q ≠ S → t.heap.get? q = some o → g.get? q = some o) → R (.ok (.ret dv)) { t with heap := g, toks := tk })
    (fin : 0 < n → ∀ v g tk, Pv (argBest bt (n - 1)) v → (∀ q o, q ∉ wr → q ≠ S → t.heap.get? q = some o → g.get? q = some o) → R (.ok (.ret v)) { t with heap := g, toks := tk }) :
    codeAny (model prog w) A (.builtin "max.loop" ⟨[.ref I, .none, .ref S], [("default", dv)]⟩) R t := by
  refine codeAny_builtin PySem.F.entry_max_loop (?_ : wpAny _ _ _ _ _ t)
  rw [Around.under_plainId PySem.F.plain_max_loop _]
  refine (wpAny_bind (wpAny_seqItems eS rfl ?_) : wpAny _ A.in1 (seqItems? (.ref S) >>= _) _ _ t)
  show wpAny _ A.in1 (tryCatch (pyNext (.ref I)) _ >>= _) _ _ t
  by_cases hn : n = 0
  · refine wpAny_bind (wpAny_tryCatch (Wk.done t _ _ (by rw [hn]; exact st) fun g tk kp => ?_))
    show wpAny _ A.in1 (rule _ >>= _) _ _ _
    exact wpAny_bind (wpAny_rule (wpAny_pure (non hn g tk fun q o q1 _ e => kp q o q1 e)))
  · refine wpAny_bind (wpAny_tryCatch (Wk.item 0 t _ _ (by omega) st fun v g tk pv st2 kp => ?_))
    have eS2 := kp S _ (fun z => nS (Wk.sub _ z)) eS
    show wpAny _ A.in1 (updateSeq S (fun _ => #[v, v]) >>= _) _ _ _
    refine wpAny_bind (wpAny_updateSeq eS2 rfl ?_)
    rw [nm_max]
    refine wpAny_pure ⟨plainId_quiet PySem.F.plain_max_loop _, turnD_max Wk cmp nS (n - 1) 0 _ v _ (by omega) (Wk.frame _ _ _ st2 fun q hq o e => ?_) pv (Heap.get?_update_self _ eS2 rfl) fun v2 g2 tk2 p2 k2 => ?_⟩
    · exact (Heap.get?_update_other _ _ (fun z : S = q => nS (z ▸ hq))).trans e
    · exact fin (by omega) v2 g2 tk2 p2 fun q o q1 q2 e => k2 q o q1 q2 ((Heap.get?_update_other _ _ (fun z => q2 z.symm)).trans (kp q o q1 e))
end
section
variable {prog : Program} {w : World} {A : Around} {E : Value → Shared → Prop} {t : Shared}
theorem callD_max {x dv : Value} {Q : Value → Shared → Prop}
    (h : wpAny (model prog w) A.in1 (pyIter x) (fun it t2 => ∃ I fp wr n Pv St bt, it = .ref I ∧ Walks prog w A.in1 I fp wr n Pv St ∧ St 0 t2.heap ∧ (∀ b ∈ fp, b < t2.heap.objs.size) ∧ CmpOf prog w A.in1 .Gt Pv bt ∧
      (n = 0 → ∀ g tk, (∀ q o, q ∉ wr → t2.heap.get? q = some o → g.get? q = some o) → Q dv { t2 with heap := g, toks := tk }) ∧
      (0 < n → ∀ v g tk, Pv (argBest bt (n - 1)) v → (∀ q o, q ∉ wr → t2.heap.get? q = some o → g.get? q = some o) → Q v { t2 with heap := g, toks := tk })) E t) :
    wpAny (model prog w) A (call (.builtin "max") [x] [(Str.ofString "default", dv)]) Q E t := by
  refine PyProof.Rows.kmk_tree PySem.F.kind_max PySem.F.plain_max PySem.F.entry_max (argsD_max _ _) ?_
  show wpAny _ A.in1 (Builtin.Builtins.bindParams "max" ["key", "default"] 0 ⟨[], [(Str.ofString "default", dv)]⟩ >>= _) _ _ t
  refine wpAny_bind (wpAny_of_eq (show Builtin.Builtins.bindParams "max" ["key", "default"] 0 ⟨[], [(Str.ofString "default", dv)]⟩ = pure [none, some dv] from rfl) ?_)
  refine wpAny_bind (wpAny_pure (wpAny_bind (wpAny_mono h (fun it t2 h2 => ?_) fun _ _ e => e)))
  obtain ⟨I, fp, wr, n, Pv, St, bt, rfl, Wk, st, hfp, cmp, q0, q1⟩ := h2
  refine wpAny_bind (wpAny_newObj_type ?_)
  have nS : t2.heap.objs.size ∉ fp := fun z => Nat.lt_irrefl _ (hfp _ z)
  rw [nm_max]
  have old : ∀ (g : Heap), (∀ q o, q ∉ wr → q ≠ t2.heap.objs.size → (t2.heap.push { cls := .type "list", data := .seq #[] }).get? q = some o → g.get? q = some o) → ∀ q o, q ∉ wr → t2.heap.get? q = some o → g.get? q = some o :=
    fun g k q o q1 e => k q o q1 (Nat.ne_of_lt (Heap.lt_size e)) (Heap.get?_push_of_some _ e)
  refine wpAny_pure ⟨plainId_quiet PySem.F.plain_max_loop _, firstD_max Wk cmp nS (Wk.frame _ _ _ st fun b _ o e => Heap.get?_push_of_some _ e) (Heap.get?_push_size _ rfl) (fun hn g tk k => ?_) fun hn v g tk pv k => ?_⟩
  · exact q0 hn g tk (old g k)
  · exact q1 hn v g tk pv (old g k)
end
section
variable {X : Cx}
def rD_max (K : PySem.W.Frag) : List V → List V → Hp → VK → Prop := fun vs zs H Q => ∃ (a : Addr) (ns : List Int) (dv : V), vs = [V.ref a] ∧ zs = [dv] ∧ SqL K H a (ns.map V.int) ∧ (ns = [] → Q dv H) ∧ (ns ≠ [] → ∀ m, m ∈ ns → (∀ y, y ∈ ns → y ≤ m) → Q (.int m) H)
theorem crD_max (hc : X.calm = true) : CallRK X (.builtin "max") [Str.ofString "default"] (rD_max X.K) := by
  intro pins s σ H vs zs us ws Q I r rz h
  obtain ⟨a, ns, dv, rfl, rfl, hs, q0, q1⟩ := h
  obtain ⟨its, rv, hl, _⟩ := I.list hs
  obtain ⟨wd, rfl, rd⟩ := rz.one
  rw [Vals.ref1 r]
  obtain ⟨xs, e⟩ := rv.ints.allInts.items
  have hn : numsOf (intItems xs).toList = ns := by rw [← e]; exact rv.ints.numsOf
  rw [nums_intItems] at hn
  have hl2 : s.heap.IsList a (intItems xs) := by rw [← e]; exact hl.isList
  show wpAny _ _ (call (.builtin "max") [Value.ref a] [(Str.ofString "default", wd)]) _ _ s
  refine callD_max (iter_intList hl2 fun t2 e2 st hfp hlI => ?_)
  subst e2
  refine ⟨_, _, _, _, _, _, _, rfl, Walks.list (A := X.A.in1) (I.ok.hd hc) _ a hlI (intItems xs), st, hfp, CmpOf.ints_gt (numAt xs) (fun _ _ => intItems_at), fun h0 g tk k => ?_, fun h0 v g tk pv k => ?_⟩
  · have hx : xs.size = 0 := by simpa [intItems] using h0
    have e0 : ns = [] := by
      rw [← hn]
      apply List.eq_nil_of_length_eq_zero
      rw [List.length_map, Array.length_toList]
      exact hx
    exact ⟨dv, H, I.kept (old_kept k), rd, q0 e0⟩
  · have hsz : 0 < xs.size := by simpa [intItems] using h0
    have hv : (intItems xs)[argBest (fun i j => decide (numAt xs i > numAt xs j)) (xs.size - 1)]? = some v := by simpa [intItems] using pv
    obtain ⟨tk2, rfl⟩ := intItems_at hv
    obtain ⟨h1, h2⟩ := argBest_gt (numAt xs) (xs.size - 1)
    refine ⟨.int _, H, I.kept (old_kept k), ⟨tk2, rfl⟩, q1 ?_ _ ?_ fun y hy => ?_⟩
    · intro z
      rw [z] at hn
      have := congrArg List.length hn
      rw [List.length_map, Array.length_toList] at this
      simp at this
      rw [this] at hsz
      exact absurd hsz (by simp)
    · rw [← hn, numAt_eq]
      exact PySem.getD_mem (by rw [List.length_map, Array.length_toList]; omega)
    · rw [← hn] at hy
      obtain ⟨j, hj, rfl⟩ := mem_getD hy
      rw [List.length_map, Array.length_toList] at hj
      rw [← numAt_eq]
      exact h2 j (by omega)
end

/-! ### min(xs, default=d) of a list -/
theorem argsD_min (a v : Value) : argsOk "min" ⟨[a], [(Str.ofString "default", v)]⟩ := by unfold argsOk; kernel_rfl
section
variable {prog : Program} {w : World} {A : Around} {R : Result → Shared → Prop} {I S : Addr} {fp wr : List Addr} {n : Nat} {Pv : Nat → Value → Prop} {St : Nat → Heap → Prop} {bt : Nat → Nat → Bool} {dv : Value}
theorem nm_min : (toString "min" ++ toString ".loop" : String) = "min.loop" := by decide
/-- the loop behind its first item -/
theorem turnD_min (Wk : Walks prog w A.in1 I fp wr n Pv St) (cmp : CmpOf prog w A.in1 .Lt Pv bt) (nS : S ∉ fp) : ∀ (r j : Nat) (t : Shared) (b : Value) (c : Nat), n = j + 1 + r → St (j + 1) t.heap → Pv (argBest bt j) b →
    t.heap.get? S = some { cls := .type "list", dict := none, data := .seq #[b, b] c, slots := #[] } →
    (∀ v g tk, Pv (argBest bt (n - 1)) v → (∀ q o, q ∉ wr → q ≠ S → t.heap.get? q = some o → g.get? q = some o) → R (.ok (.ret v)) { t with heap := g, toks := tk }) →
    codeAny (model prog w) A (.builtin "min.loop" ⟨[.ref I, .none, .ref S], [("default", dv)]⟩) R t
  | 0, j, t, b, c, en, st, pb, eS, fin => by
    refine codeAny_builtin PySem.F.entry_min_loop (?_ : wpAny _ _ _ _ _ t)
    rw [Around.under_plainId PySem.F.plain_min_loop _]
    refine (wpAny_bind (wpAny_seqItems eS rfl ?_) : wpAny _ A.in1 (seqItems? (.ref S) >>= _) _ _ t)
    show wpAny _ A.in1 (tryCatch (pyNext (.ref I)) _ >>= _) _ _ t
    refine wpAny_bind (wpAny_tryCatch (Wk.done t _ _ (by have e : n = j + 1 := en; rw [e]; exact st) fun g tk kp => ?_))
    have eS2 := kp S _ (fun z => nS (Wk.sub _ z)) eS
    show wpAny _ A.in1 (updateSeq S (fun _ => #[]) >>= _) _ _ _
    refine wpAny_bind (wpAny_updateSeq eS2 rfl (wpAny_bind (wpAny_letGo (wpAny_pure (fin b _ tk ?_ fun q o q1 q2 e => ?_)))))
    · have e : n - 1 = j := by omega
      rw [e]
      exact pb
    · exact (Heap.get?_update_other _ _ (fun z => q2 z.symm)).trans (kp q o q1 e)
  | r + 1, j, t, b, c, en, st, pb, eS, fin => by
    refine codeAny_builtin PySem.F.entry_min_loop (?_ : wpAny _ _ _ _ _ t)
    rw [Around.under_plainId PySem.F.plain_min_loop _]
    refine (wpAny_bind (wpAny_seqItems eS rfl ?_) : wpAny _ A.in1 (seqItems? (.ref S) >>= _) _ _ t)
    show wpAny _ A.in1 (tryCatch (pyNext (.ref I)) _ >>= _) _ _ t
    refine wpAny_bind (wpAny_tryCatch (Wk.item (j + 1) t _ _ (by omega) st fun v g tk pv st2 kp => ?_))
    have eS2 := kp S _ (fun z => nS (Wk.sub _ z)) eS
    show wpAny _ A.in1 (tryCatch (holding [v, v] (richCompare .Lt v b >>= _)) _ >>= _) _ _ _
    refine wpAny_bind (wpAny_tryCatch (wpAny_holding (wpAny_bind (cmp (j + 1) (argBest bt j) v b _ _ _ pv pb (wpAny_bind (wpAny_holding (wpAny_truthy_bool (wpAny_bind (wpAny_letGo (wpAny_pure ?_)))))))))) 
    by_cases hb : bt (j + 1) (argBest bt j) = true
    · rw [hb]
      simp only [if_true]
      refine wpAny_bind (wpAny_updateSeq eS2 rfl (wpAny_bind (wpAny_letGo ?_)))
      rw [nm_min]
      refine wpAny_pure ⟨plainId_quiet PySem.F.plain_min_loop _, turnD_min Wk cmp nS r (j + 1) _ v _ (by omega) (Wk.frame _ _ _ st2 fun q hq o e => ?_) (by simp only [argBest, hb, if_true]; exact pv) (Heap.get?_update_self _ eS2 rfl) fun v2 g2 tk2 p2 k2 => ?_⟩
      · exact (Heap.get?_update_other _ _ (fun z : S = q => nS (z ▸ hq))).trans e
      · exact fin v2 g2 tk2 p2 fun q o q1 q2 e => k2 q o q1 q2 ((Heap.get?_update_other _ _ (fun z => q2 z.symm)).trans (kp q o q1 e))
    · have hb2 : bt (j + 1) (argBest bt j) = false := by simpa using hb
      rw [hb2]
      simp only [Bool.false_eq_true, if_false]
      refine wpAny_bind (wpAny_letGo ?_)
      rw [nm_min]
      refine wpAny_pure ⟨plainId_quiet PySem.F.plain_min_loop _, turnD_min Wk cmp nS r (j + 1) _ b c (by omega) st2 (by simp only [argBest, hb2, Bool.false_eq_true, if_false]; exact pb) eS2 fun v2 g2 tk2 p2 k2 => ?_⟩
      exact fin v2 g2 tk2 p2 fun q o q1 q2 e => k2 q o q1 q2 (kp q o q1 e)
/-- the loop at its first turn -/
theorem firstD_min (Wk : Walks prog w A.in1 I fp wr n Pv St) (cmp : CmpOf prog w A.in1 .Lt Pv bt) (nS : S ∉ fp) {t : Shared} {c : Nat} (st : St 0 t.heap) (eS : t.heap.get? S = some { cls := .type "list", dict := none, data := .seq #[] c, slots := #[] })
    (non : n = 0 → ∀ g tk, (∀ q o, q ∉ wr → q ≠ S → t.heap.get? q = some o → g.get? q = some o) → R (.ok (.ret dv)) { t with heap := g, toks := tk })
    (fin : 0 < n → ∀ v g tk, Pv (argBest bt (n - 1)) v → (∀ q o, q ∉ wr → q ≠ S → t.heap.get? q = some o → g.get? q = some o) → R (.ok (.ret v)) { t with heap := g, toks := tk }) :
    codeAny (model prog w) A (.builtin "min.loop" ⟨[.ref I, .none, .ref S], [("default", dv)]⟩) R t := by
  refine codeAny_builtin PySem.F.entry_min_loop (?_ : wpAny _ _ _ _ _ t)
  rw [Around.under_plainId PySem.F.plain_min_loop _]
  refine (wpAny_bind (wpAny_seqItems eS rfl ?_) : wpAny _ A.in1 (seqItems? (.ref S) >>= _) _ _ t)
  show wpAny _ A.in1 (tryCatch (pyNext (.ref I)) _ >>= _) _ _ t
  by_cases hn : n = 0
  · refine wpAny_bind (wpAny_tryCatch (Wk.done t _ _ (by rw [hn]; exact st) fun g tk kp => ?_))
    show wpAny _ A.in1 (rule _ >>= _) _ _ _
    exact wpAny_bind (wpAny_rule (wpAny_pure (non hn g tk fun q o q1 _ e => kp q o q1 e)))
  · refine wpAny_bind (wpAny_tryCatch (Wk.item 0 t _ _ (by omega) st fun v g tk pv st2 kp => ?_))
    have eS2 := kp S _ (fun z => nS (Wk.sub _ z)) eS
    show wpAny _ A.in1 (updateSeq S (fun _ => #[v, v]) >>= _) _ _ _
    refine wpAny_bind (wpAny_updateSeq eS2 rfl ?_)
    rw [nm_min]
    refine wpAny_pure ⟨plainId_quiet PySem.F.plain_min_loop _, turnD_min Wk cmp nS (n - 1) 0 _ v _ (by omega) (Wk.frame _ _ _ st2 fun q hq o e => ?_) pv (Heap.get?_update_self _ eS2 rfl) fun v2 g2 tk2 p2 k2 => ?_⟩
    · exact (Heap.get?_update_other _ _ (fun z : S = q => nS (z ▸ hq))).trans e
    · exact fin (by omega) v2 g2 tk2 p2 fun q o q1 q2 e => k2 q o q1 q2 ((Heap.get?_update_other _ _ (fun z => q2 z.symm)).trans (kp q o q1 e))
end
section
variable {prog : Program} {w : World} {A : Around} {E : Value → Shared → Prop} {t : Shared}
theorem callD_min {x dv : Value} {Q : Value → Shared → Prop}
    (h : wpAny (model prog w) A.in1 (pyIter x) (fun it t2 => ∃ I fp wr n Pv St bt, it = .ref I ∧ Walks prog w A.in1 I fp wr n Pv St ∧ St 0 t2.heap ∧ (∀ b ∈ fp, b < t2.heap.objs.size) ∧ CmpOf prog w A.in1 .Lt Pv bt ∧
      (n = 0 → ∀ g tk, (∀ q o, q ∉ wr → t2.heap.get? q = some o → g.get? q = some o) → Q dv { t2 with heap := g, toks := tk }) ∧
      (0 < n → ∀ v g tk, Pv (argBest bt (n - 1)) v → (∀ q o, q ∉ wr → t2.heap.get? q = some o → g.get? q = some o) → Q v { t2 with heap := g, toks := tk })) E t) :
    wpAny (model prog w) A (call (.builtin "min") [x] [(Str.ofString "default", dv)]) Q E t := by
  refine PyProof.Rows.kmk_tree PySem.F.kind_min PySem.F.plain_min PySem.F.entry_min (argsD_min _ _) ?_
  show wpAny _ A.in1 (Builtin.Builtins.bindParams "min" ["key", "default"] 0 ⟨[], [(Str.ofString "default", dv)]⟩ >>= _) _ _ t
  refine wpAny_bind (wpAny_of_eq (show Builtin.Builtins.bindParams "min" ["key", "default"] 0 ⟨[], [(Str.ofString "default", dv)]⟩ = pure [none, some dv] from rfl) ?_)
  refine wpAny_bind (wpAny_pure (wpAny_bind (wpAny_mono h (fun it t2 h2 => ?_) fun _ _ e => e)))
  obtain ⟨I, fp, wr, n, Pv, St, bt, rfl, Wk, st, hfp, cmp, q0, q1⟩ := h2
  refine wpAny_bind (wpAny_newObj_type ?_)
  have nS : t2.heap.objs.size ∉ fp := fun z => Nat.lt_irrefl _ (hfp _ z)
  rw [nm_min]
  have old : ∀ (g : Heap), (∀ q o, q ∉ wr → q ≠ t2.heap.objs.size → (t2.heap.push { cls := .type "list", data := .seq #[] }).get? q = some o → g.get? q = some o) → ∀ q o, q ∉ wr → t2.heap.get? q = some o → g.get? q = some o :=
    fun g k q o q1 e => k q o q1 (Nat.ne_of_lt (Heap.lt_size e)) (Heap.get?_push_of_some _ e)
  refine wpAny_pure ⟨plainId_quiet PySem.F.plain_min_loop _, firstD_min Wk cmp nS (Wk.frame _ _ _ st fun b _ o e => Heap.get?_push_of_some _ e) (Heap.get?_push_size _ rfl) (fun hn g tk k => ?_) fun hn v g tk pv k => ?_⟩
  · exact q0 hn g tk (old g k)
  · exact q1 hn v g tk pv (old g k)
end
section
variable {X : Cx}
def rD_min (K : PySem.W.Frag) : List V → List V → Hp → VK → Prop := fun vs zs H Q => ∃ (a : Addr) (ns : List Int) (dv : V), vs = [V.ref a] ∧ zs = [dv] ∧ SqL K H a (ns.map V.int) ∧ (ns = [] → Q dv H) ∧ (ns ≠ [] → ∀ m, m ∈ ns → (∀ y, y ∈ ns → m ≤ y) → Q (.int m) H)
theorem crD_min (hc : X.calm = true) : CallRK X (.builtin "min") [Str.ofString "default"] (rD_min X.K) := by
  intro pins s σ H vs zs us ws Q I r rz h
  obtain ⟨a, ns, dv, rfl, rfl, hs, q0, q1⟩ := h
  obtain ⟨its, rv, hl, _⟩ := I.list hs
  obtain ⟨wd, rfl, rd⟩ := rz.one
  rw [Vals.ref1 r]
  obtain ⟨xs, e⟩ := rv.ints.allInts.items
  have hn : numsOf (intItems xs).toList = ns := by rw [← e]; exact rv.ints.numsOf
  rw [nums_intItems] at hn
  have hl2 : s.heap.IsList a (intItems xs) := by rw [← e]; exact hl.isList
  show wpAny _ _ (call (.builtin "min") [Value.ref a] [(Str.ofString "default", wd)]) _ _ s
  refine callD_min (iter_intList hl2 fun t2 e2 st hfp hlI => ?_)
  subst e2
  refine ⟨_, _, _, _, _, _, _, rfl, Walks.list (A := X.A.in1) (I.ok.hd hc) _ a hlI (intItems xs), st, hfp, CmpOf.ints_lt (numAt xs) (fun _ _ => intItems_at), fun h0 g tk k => ?_, fun h0 v g tk pv k => ?_⟩
  · have hx : xs.size = 0 := by simpa [intItems] using h0
    have e0 : ns = [] := by
      rw [← hn]
      apply List.eq_nil_of_length_eq_zero
      rw [List.length_map, Array.length_toList]
      exact hx
    exact ⟨dv, H, I.kept (old_kept k), rd, q0 e0⟩
  · have hsz : 0 < xs.size := by simpa [intItems] using h0
    have hv : (intItems xs)[argBest (fun i j => decide (numAt xs i < numAt xs j)) (xs.size - 1)]? = some v := by simpa [intItems] using pv
    obtain ⟨tk2, rfl⟩ := intItems_at hv
    obtain ⟨h1, h2⟩ := argBest_lt (numAt xs) (xs.size - 1)
    refine ⟨.int _, H, I.kept (old_kept k), ⟨tk2, rfl⟩, q1 ?_ _ ?_ fun y hy => ?_⟩
    · intro z
      rw [z] at hn
      have := congrArg List.length hn
      rw [List.length_map, Array.length_toList] at this
      simp at this
      rw [this] at hsz
      exact absurd hsz (by simp)
    · rw [← hn, numAt_eq]
      exact PySem.getD_mem (by rw [List.length_map, Array.length_toList]; omega)
    · rw [← hn] at hy
      obtain ⟨j, hj, rfl⟩ := mem_getD hy
      rw [List.length_map, Array.length_toList] at hj
      rw [← numAt_eq]
      exact h2 j (by omega)
end

end TW
/-! Part 9: the least and the greatest, repeated tuples, reversed, isinstance, sorted. -/
namespace TW
open PySem PySem.Spec PyProof.Rows L2

/-! ### least, greatest -/
def leastO : List Int → Option Int
  | [] => none
  | x :: xs => some (xs.foldl min x)
def mostO : List Int → Option Int
  | [] => none
  | x :: xs => some (xs.foldl max x)
theorem fold_min (xs : List Int) : ∀ x : Int, (xs.foldl min x = x ∨ xs.foldl min x ∈ xs) ∧ xs.foldl min x ≤ x ∧ ∀ y ∈ xs, xs.foldl min x ≤ y := by
  induction xs with
  | nil => intro x; exact ⟨.inl rfl, Int.le_refl _, fun y hy => nomatch hy⟩
  | cons z xs ih =>
    intro x
    obtain ⟨h1, h2, h3⟩ := ih (min x z)
    rw [List.foldl_cons]
    refine ⟨?_, by omega, fun y hy => ?_⟩
    · rcases h1 with h | h
      · rw [h]
        by_cases q : x ≤ z
        · exact .inl (by omega)
        · exact .inr (by rw [show min x z = z by omega]; exact List.mem_cons_self ..)
      · exact .inr (List.mem_cons_of_mem _ h)
    · rcases List.mem_cons.mp hy with rfl | hy
      · omega
      · exact h3 y hy
theorem fold_max (xs : List Int) : ∀ x : Int, (xs.foldl max x = x ∨ xs.foldl max x ∈ xs) ∧ x ≤ xs.foldl max x ∧ ∀ y ∈ xs, y ≤ xs.foldl max x := by
  induction xs with
  | nil => intro x; exact ⟨.inl rfl, Int.le_refl _, fun y hy => nomatch hy⟩
  | cons z xs ih =>
    intro x
    obtain ⟨h1, h2, h3⟩ := ih (max x z)
    rw [List.foldl_cons]
    refine ⟨?_, by omega, fun y hy => ?_⟩
    · rcases h1 with h | h
      · rw [h]
        by_cases q : z ≤ x
        · exact .inl (by omega)
        · exact .inr (by rw [show max x z = z by omega]; exact List.mem_cons_self ..)
      · exact .inr (List.mem_cons_of_mem _ h)
    · rcases List.mem_cons.mp hy with rfl | hy
      · omega
      · exact h3 y hy
theorem leastO_some {xs : List Int} {m : Int} : leastO xs = some m ↔ m ∈ xs ∧ ∀ y ∈ xs, m ≤ y := by
  cases xs with
  | nil => simp [leastO]
  | cons x xs =>
    obtain ⟨h1, h2, h3⟩ := fold_min xs x
    have a : xs.foldl min x ∈ x :: xs := h1.elim (fun h => by rw [h]; exact List.mem_cons_self ..) (fun h => List.mem_cons_of_mem _ h)
    have b : ∀ y ∈ x :: xs, xs.foldl min x ≤ y := fun y hy => (List.mem_cons.mp hy).elim (fun h => h ▸ h2) (h3 y)
    constructor
    · intro h
      have e : xs.foldl min x = m := Option.some.inj h
      rw [← e]
      exact ⟨a, b⟩
    · rintro ⟨h4, h5⟩
      exact congrArg some (Int.le_antisymm (b m h4) (h5 _ a))
theorem mostO_some {xs : List Int} {m : Int} : mostO xs = some m ↔ m ∈ xs ∧ ∀ y ∈ xs, y ≤ m := by
  cases xs with
  | nil => simp [mostO]
  | cons x xs =>
    obtain ⟨h1, h2, h3⟩ := fold_max xs x
    have a : xs.foldl max x ∈ x :: xs := h1.elim (fun h => by rw [h]; exact List.mem_cons_self ..) (fun h => List.mem_cons_of_mem _ h)
    have b : ∀ y ∈ x :: xs, y ≤ xs.foldl max x := fun y hy => (List.mem_cons.mp hy).elim (fun h => h ▸ h2) (h3 y)
    constructor
    · intro h
      have e : xs.foldl max x = m := Option.some.inj h
      rw [← e]
      exact ⟨a, b⟩
    · rintro ⟨h4, h5⟩
      exact congrArg some (Int.le_antisymm (h5 _ a) (b m h4))
def orD (o : Option Int) (d : PyData) : PyData := match o with
  | none => d
  | some m => .int m
section
variable {ι : Type} {W : Wd} {F : ι → Cx} {k : Nat} {Γ : SC} {e de ke tg : Expr} {d x : PyData} {ds : List PyData} {pos p q2 : Pos} {kp : Pos} {ns : List Int} {n m : Int}
theorem ex_maxD (fm : Fm W k F) (hg : ∀ j, Gl (F j) "max") (hm : W.mg "max" = none) (h : EX W F e Γ (.list (ns.map .int))) (hd : EX W F de Γ d)
    (he : ∀ j, backTo pos (starEach [e] (F j).env) = (false, eval e (F j).env) :: backTo pos (starEach [] (F j).env) := by exact fun _ => rfl) (h1 : ∀ j, starEach [e] (F j).env = (false, eval e (F j).env) :: starEach [] (F j).env := by exact fun _ => rfl)
    (hpl : ∀ j, (backTo pos (starEach [e] (F j).env)).any (·.1) = false := by exact fun _ => rfl) (hall : ∀ j, (backToKw pos (keywordEach [⟨some (Str.ofString "default"), de, kp⟩] (F j).env)).all (·.1.isSome) = true := by exact fun _ => rfl)
    (hnone : ∀ j, (backToKw pos (keywordEach [⟨some (Str.ofString "default"), de, kp⟩] (F j).env)).any (·.1.isNone) = false := by exact fun _ => rfl) (hks : ∀ j, (backToKw pos (keywordEach [⟨some (Str.ofString "default"), de, kp⟩] (F j).env)).filterMap (·.1) = [Str.ofString "default"] := by exact fun _ => rfl) :
    EX W F (.Call (.Name "max" p) [e] [⟨some (Str.ofString "default"), de, kp⟩] pos) Γ (orD (mostO ns) d) :=
  .of (t := tCKw (rD_max W.K) (tCons (TEw F e) tNil) (tCons (TEw F de) tNil)) (fun j => pe_callBK (by rw [← fm.K j]; exact crD_max (fm.calm j)) (hg j) (by rw [fm.mg j]; exact hm) (by decide +kernel) (pa_cons (pe_w j) pa_nil (h1 j)) (pk_cons (pe_w j) pk_nil) (by decide) (by decide) (he j) (hpl j) (hall j) (hnone j) (hks j)) fun σ G H en Q q =>
    h σ G H en _ fun v G1 H1 g1 d1 => hd σ G1 H1 (en.gr g1) _ fun u G2 H2 g2 d2 => by
      obtain ⟨l, xs, rfl, a1, a2⟩ := dp_lst d1
      cases a2.ints
      refine ⟨l, ns, u, rfl, rfl, SqL.of (g2.same _ _ (g1.sub _ _ a1)), fun e0 => ?_, fun e0 m b1 b2 => ?_⟩
      · subst e0
        exact q u G2 H2 (g1.trans g2) d2
      · rw [mostO_some.mpr ⟨b1, b2⟩] at q
        exact q _ G2 H2 (g1.trans g2) (.int m)
theorem ex_minD (fm : Fm W k F) (hg : ∀ j, Gl (F j) "min") (hm : W.mg "min" = none) (h : EX W F e Γ (.list (ns.map .int))) (hd : EX W F de Γ d)
    (he : ∀ j, backTo pos (starEach [e] (F j).env) = (false, eval e (F j).env) :: backTo pos (starEach [] (F j).env) := by exact fun _ => rfl) (h1 : ∀ j, starEach [e] (F j).env = (false, eval e (F j).env) :: starEach [] (F j).env := by exact fun _ => rfl)
    (hpl : ∀ j, (backTo pos (starEach [e] (F j).env)).any (·.1) = false := by exact fun _ => rfl) (hall : ∀ j, (backToKw pos (keywordEach [⟨some (Str.ofString "default"), de, kp⟩] (F j).env)).all (·.1.isSome) = true := by exact fun _ => rfl)
    (hnone : ∀ j, (backToKw pos (keywordEach [⟨some (Str.ofString "default"), de, kp⟩] (F j).env)).any (·.1.isNone) = false := by exact fun _ => rfl) (hks : ∀ j, (backToKw pos (keywordEach [⟨some (Str.ofString "default"), de, kp⟩] (F j).env)).filterMap (·.1) = [Str.ofString "default"] := by exact fun _ => rfl) :
    EX W F (.Call (.Name "min" p) [e] [⟨some (Str.ofString "default"), de, kp⟩] pos) Γ (orD (leastO ns) d) :=
  .of (t := tCKw (rD_min W.K) (tCons (TEw F e) tNil) (tCons (TEw F de) tNil)) (fun j => pe_callBK (by rw [← fm.K j]; exact crD_min (fm.calm j)) (hg j) (by rw [fm.mg j]; exact hm) (by decide +kernel) (pa_cons (pe_w j) pa_nil (h1 j)) (pk_cons (pe_w j) pk_nil) (by decide) (by decide) (he j) (hpl j) (hall j) (hnone j) (hks j)) fun σ G H en Q q =>
    h σ G H en _ fun v G1 H1 g1 d1 => hd σ G1 H1 (en.gr g1) _ fun u G2 H2 g2 d2 => by
      obtain ⟨l, xs, rfl, a1, a2⟩ := dp_lst d1
      cases a2.ints
      refine ⟨l, ns, u, rfl, rfl, SqL.of (g2.same _ _ (g1.sub _ _ a1)), fun e0 => ?_, fun e0 m b1 b2 => ?_⟩
      · subst e0
        exact q u G2 H2 (g1.trans g2) d2
      · rw [leastO_some.mpr ⟨b1, b2⟩] at q
        exact q _ G2 H2 (g1.trans g2) (.int m)

/-! ### reversed -/
theorem runs_rev {G : Hp} {l : Addr} {xs : List V} (h : G l = some (.lst xs)) (t : DtAll W.K G xs ds) : Runs W (Itv W.K l xs.length) G ds.reverse := fun G1 H1 e s => by
  have hq : SqL W.K H1 l xs := SqL.of (s _ _ (e _ _ h))
  refine ⟨fun i y hy => ?_, by show xs.length ≤ _; rw [List.length_reverse, t.length]; exact Nat.le_refl _⟩
  have hi : i < ds.length := by
    have := (List.getElem?_eq_some_iff.mp hy).1
    simpa using this
  have hy2 : ds[ds.length - 1 - i]? = some y := by
    rw [List.getElem?_reverse hi] at hy
    exact hy
  obtain ⟨v, h1, h2⟩ := t.at hy2
  rw [← t.length] at h1
  refine ⟨⟨by rw [t.length]; exact hi, xs, v, hq, h1⟩, fun x H' yl => ?_⟩
  obtain ⟨rfl, f⟩ := yl
  have ex : x = v := Option.some.inj ((f xs hq).symm.trans h1)
  subst ex
  exact ⟨G1, Gr.refl s, h2.up e⟩
theorem ix_rev (fm : Fm W k F) (hg : ∀ j, Gl (F j) "reversed") (hm : W.mg "reversed" = none) (h : EX W F e Γ (.list ds)) (hs : ∀ j, starEach [e] (F j).env = [(false, eval e (F j).env)] := by exact fun _ => rfl) : IX W F tg (.Call (.Name "reversed" p) [e] [] pos) Γ ds.reverse :=
  .of (t := iRev W.K (TAw F [e])) (fun j => by rw [← fm.K j]; exact pi_reversed (hg j) (by rw [fm.mg j]; exact hm) (pa_w j) (hs j)) fun σ G H en R q => by
    have ea : EA W F [e] Γ [.list ds] := ea_cons h ea_nil fun j => by rw [hs j]; rfl
    refine ea σ G H en _ fun vs G1 H1 g1 d1 => ?_
    obtain ⟨v, rfl, dv⟩ := dtAll1 d1
    obtain ⟨l, xs, rfl, a1, a2⟩ := dp_lst dv
    exact ⟨l, xs, rfl, SqL.of (g1.sub _ _ a1), q _ G1 H1 g1 (runs_rev a1 a2)⟩

/-! ### isinstance(n, int), isinstance(n, bool) -/
theorem ex_isi {T : Str} {T' : String} {c : Bool} (fm : Fm W k F) (hg : ∀ j, Gl (F j) "isinstance") (hm : W.mg "isinstance" = none) (hgT : ∀ j, Gl (F j) T) (hmT : W.mg T = none) (hT : bootBuiltins T = some (.type T')) (hb : kitB "int" T' = some c) (h : EX W F e Γ (.int n))
    (h1 : ∀ j, starEach [e, .Name T q2] (F j).env = (false, eval e (F j).env) :: starEach [.Name T q2] (F j).env := by exact fun _ => rfl) (h2 : ∀ j, starEach [.Name T q2] (F j).env = (false, eval (.Name T q2) (F j).env) :: starEach [] (F j).env := by exact fun _ => rfl)
    (hpl : ∀ j, (backTo pos (starEach [.Name T q2] (F j).env)).any (·.1) = false := by exact fun _ => rfl) (hn : T ≠ "__name__" := by decide) (hdb : (T == ("__debug__" : Str)) = false := by decide) : EX W F (.Call (.Name "isinstance" p) [e, .Name T q2] [] pos) Γ (.bool c) :=
  .of (t := tCB (rIsi W.K) (tCons (TEw F e) (tCons (tC (.ty T')) tNil))) (fun j => pe_callB (by have := @call_isi (F j); rw [fm.K j] at this; exact this) (hg j) (by rw [fm.mg j]; exact hm) (by decide +kernel) (pa_cons (pe_w j) (pa_cons (pe_bltn (v := .ty T') (hgT j) (by rw [fm.mg j]; exact hmT) hT rfl hn hdb) pa_nil (h2 j)) (h1 j)) (by decide) (by decide) (h1 j) (hpl j)) fun σ G H en Q q =>
    h σ G H en _ fun v G1 H1 g1 d1 => by
      cases dp_int d1
      exact ⟨.int n, .ty T', .type "int", .type T', c, rfl, .ty T', .base (.int n), kit_ty hb, q _ G1 H1 g1 (.bl c)⟩

/-! ### (x,) * n -/
section
variable {prog : Program} {w : World} {A : Around} {E : Value → Shared → Prop} {s : Shared}
theorem tuple_mul1 (l : Addr) (items : Array Value) (nn : Nat) (dd : Option Addr) (sl : Array (Option Value)) (u : Tok) (c1 : (items.isEmpty || (1 : Int) == 1) = true) :
    Meets (Builtin.«tuple.__mul__» ⟨[.ref l, .int 1 u], []⟩) (fun _ R s => s.heap.get? l = some { cls := .type "tuple", dict := dd, data := .seq items nn, slots := sl } ∧ R (.ok (.ret (Value.ref l))) s) :=
  .of_wp fun prog w A R s h => by
    obtain ⟨hp, g, d, tk, os⟩ := s
    obtain ⟨hl, h⟩ := h
    have f1 := AutoSeq1.idx_int
    wp_walk using AutoSeq1.wpAny_loadPart' hl
    repeat (first
      | (refine wpAny_ite_true (decide_eq_true (by rw [c1])) ?_; wp_walk using AutoSeq1.wpAny_loadPart' hl)
      | (refine wpAny_ite_false (decide_eq_false (by decide)) ?_; wp_walk using AutoSeq1.wpAny_loadPart' hl))
    exact ⟨_, rfl, h⟩
end
theorem op_rep1 {X : Cx} : OpR X (binaryOp .Mult) (fun x y H Q => ∃ l xs, x = .ref l ∧ y = .int 1 ∧ SqT X.K H l xs ∧ Q (.ref l) H) := by
  intro pins s σ H x y v u Q I rx ry h
  obtain ⟨l, xs, rfl, rfl, hT, q⟩ := h
  cases rx
  obtain ⟨t, rfl⟩ := ry
  obtain ⟨its, r, ⟨⟨cls, dd, data, sl⟩, ho, hc, n, hd⟩, hs⟩ := I.tuple hT
  simp only at hc hd
  subst hc hd
  refine wpAny_binaryOp_repeat_ref (T := "tuple") (U := "int") (by decide) ⟨_, ho, rfl⟩ (fun s' => typeIs_int s' 1 t) noFill_tuple_mul PySem.F.fills_int_mul PySem.F.slot_int_rmul repeat_tuple PySem.F.slot_int_index.lookup ?_
  refine call_meets PySem.F.slot_int_rmul (typeIs_int s 1 t) PySem.F.entry_int_rmul (PySem.F.args_int_rmul_2 _ _) (int_rmul_tuple 1 t l its.toArray n dd sl) ⟨ho, rfl, ⟨_, ho, rfl⟩, ?_⟩
  exact call_meets PySem.F.slot_tuple_mul ⟨_, ho, rfl⟩ PySem.F.entry_tuple_mul (PySem.F.args_tuple_mul_2 _ _) (tuple_mul1 l its.toArray n dd sl t (by simp)) ⟨ho, .ref l, H, I, rfl, q⟩
theorem od_rep (fm : Fm W k F) (h1 : 1 ≤ n) (h2 : n ≤ 1000) : OpD W F (binaryOp .Mult) (.tuple [d]) (.int n) (.tuple (List.replicate n.toNat d)) := by
  by_cases e : n = 1
  · subst e
    refine ⟨_, fun i => by have := @op_rep1 (F i); rw [fm.K i] at this; exact this, fun G H vx vy s dx dy Q q => ?_⟩
    obtain ⟨l, xs, rfl, a1, a2⟩ := dp_tup dx
    exact ⟨l, xs, rfl, dp_int dy, sqt_up s a1, q _ G H (Gr.refl s) dx⟩
  · refine ⟨rRepT W.K, fun i => by rw [← fm.K i]; exact op_repT, fun G H vx vy s dx dy Q q => ?_⟩
    obtain ⟨l, xs, rfl, a1, a2⟩ := dp_tup dx
    obtain ⟨v, rfl, dv⟩ := dtAll1 a2
    refine ⟨l, n, [v], rfl, dp_int dy, sqt_up s a1, by simp, by omega, h2, by simp, fun p hp => ?_⟩
    have g := Gr.lay (o := .tup (List.replicate n.toNat [v]).flatten) s hp
    have fl : (List.replicate n.toNat [v]).flatten = List.replicate n.toNat v := by
      induction n.toNat with
      | zero => rfl
      | succ m ih => rw [List.replicate_succ, List.flatten_cons, ih, List.replicate_succ]; rfl
    refine q _ _ _ g (.tup (SqT.of upd_same) ?_)
    have r := DtAll.rep (dv.up g.up) n.toNat
    rw [fl] at r ⊢
    exact r
end
end TW
/-! Part 10: sorted of data, of a dict's keys. -/
namespace TW
open PySem PySem.Spec PyProof.Rows L2
section
variable {K : PySem.W.Frag} {G H : Hp} {β : Type} {enc : β → PyData}
/-- the value u stands for the datum of b -/
def Std (K : PySem.W.Frag) (G : Hp) (enc : β → PyData) (u : Value) (b : β) : Prop := ∃ x, RelV x u ∧ Dt K G x (enc b)
theorem std_each : ∀ {bs : List β} {xs : List V} {us : List Value}, DtAll K G xs (bs.map enc) → Vals xs us → PySem.W.EachIs (Std K G enc) us bs
  | [], _, _, h, r => by cases h; cases r; exact .nil
  | b :: bs, _, _, h, r => by
    cases h with
    | cons h1 h2 => cases r with
      | cons r1 r2 => exact .cons ⟨_, r1, h1⟩ (std_each h2 r2)
theorem each_std : ∀ {bs : List β} {us : List Value}, PySem.W.EachIs (Std K G enc) us bs → ∃ xs, Vals xs us ∧ DtAll K G xs (bs.map enc)
  | _, _, .nil => ⟨[], .nil, .nil⟩
  | _, _, .cons ⟨x, r, h⟩ t => let ⟨xs, r2, h2⟩ := each_std t; ⟨x :: xs, .cons r r2, .cons h h2⟩
theorem each_imp {R R' : Value → β → Prop} (f : ∀ u b, R u b → R' u b) : ∀ {bs : List β} {us : List Value}, PySem.W.EachIs R us bs → PySem.W.EachIs R' us bs
  | _, _, .nil => .nil
  | _, _, .cons h t => .cons (f _ _ h) (each_imp f t)
/-- the conditions of sorting -/
structure SrtOk (enc : β → PyData) (bs : List β) : Prop where
  alike : PySem.W.AllAlike (bs.map enc)
  kind : PySem.W.Sortable (bs.map enc)
  small : bs.length ≤ sizeLine
  depth : ∀ b ∈ bs, (enc b).depth ≤ 50
theorem SrtOk.merged {bs : List β} (h : SrtOk enc bs) {le : β → β → Bool} : (bs.mergeSort le).length ≤ sizeLine := by
  rw [List.length_mergeSort]
  exact h.small
mutual
theorem key_reads {h : Heap} : ∀ (d : PyData) (v : Value) (as : List Addr), Reads h v d as → keyable d = true → as = []
  | .int _, _, _, r, _ => by cases r; rfl
  | .tuple ds, _, _, r, k => by
    cases r with
    | tuple h1 h2 h3 h4 => exact keys_reads ds _ _ h4 (by simpa [keyable] using k)
  | .none, _, _, _, k => by simp [keyable] at k
  | .bool _, _, _, _, k => by simp [keyable] at k
  | .str _, _, _, _, k => by simp [keyable] at k
  | .list _, _, _, _, k => by simp [keyable] at k
  | .dict _, _, _, _, k => by simp [keyable] at k
theorem keys_reads {h : Heap} : ∀ (ds : List PyData) (vs : List Value) (as : List Addr), ReadsAll h vs ds as → keyables ds = true → as = []
  | [], _, _, r, _ => by cases r; rfl
  | d :: ds, _, _, r, k => by
    have k' : keyable d = true ∧ keyables ds = true := by simpa [keyables] using k
    cases r with
    | cons h1 h2 => rw [key_reads d _ _ h1 k'.1, keys_reads ds _ _ h2 k'.2]; rfl
end
end
section
variable {β : Type} {enc : β → PyData} {bs : List β} {X : Cx} {W : Wd}
def rSortData (K : PySem.W.Frag) (enc : β → PyData) (bs : List β) : List V → Hp → VK → Prop := fun vs H Q => ∃ (l : Addr) (xs : List V) (G : Hp), vs = [V.ref l] ∧ Same G H ∧ H l = some (.lst xs) ∧ DtAll K G xs (bs.map enc) ∧
  ∀ p out, H p = none → DtAll K G out ((bs.mergeSort (PySem.W.dataLe false enc)).map enc) → Q (.ref p) (upd H p (.lst out))
theorem room50 {A : Around} {k : Nat} (h : Room k A) {n : Nat} (hn : n ≤ 50) : A.units + 2 + n < cLine := by
  have := h.units
  omega
theorem cr_sortData {k : Nat} (hr : Room k X.A) (so : SrtOk enc bs) : CallR X (.builtin "sorted") (rSortData X.K enc bs) := by
  intro pins s σ H vs us Q I r h
  obtain ⟨l, xs, G, rfl, sub, hl, hx, q⟩ := h
  obtain ⟨its, rv, pl, hz⟩ := I.list (SqL.of hl)
  rw [Vals.ref1 r]
  have e1 := std_each hx rv
  refine PySem.W.sorted_data (vs := its) (bs := bs) (enc := enc) (R := Std X.K G enc) pl.isList e1 (each_imp (fun u b ⟨x, r1, h1⟩ => Dp.reads I _ _ _ (dt_dp sub _ _ h1) r1) e1) so.alike so.kind so.small (fun b hb => room50 hr (so.depth b hb)) fun out hlen ho => ?_
  obtain ⟨c, hc⟩ := PyProof.Rows.sortedAll_at s.heap its out.toArray
  obtain ⟨ys, rv2, hy⟩ := each_std ho
  have hp : H (s.heap.objs.size + 1) = none := I.hok.fresh (Nat.le_succ _)
  refine ⟨.ref _, upd H (s.heap.objs.size + 1) (.lst ys), I.laid (t' := s.toks) (fun _ _ => PyProof.Rows.sortedAll_old) (Nat.le_succ _) ⟨?_, out, c, rv2, hc⟩, rfl, q _ ys hp hy⟩
  rw [hy.length, List.length_map]
  exact so.merged
/-- sorted(d): its keys -/
def rSortDict (W : Wd) (enc : β → PyData) (bs : List β) : List V → Hp → VK → Prop := fun vs H Q => ∃ (d : Addr) (kvs : List (PyData × PyData)) (G : Hp), vs = [V.ref d] ∧ Same G H ∧ ND W G H d kvs ∧ kvs.map (·.1) = bs.map enc ∧
  ∀ p out, H p = none → DtAll W.K G out ((bs.mergeSort (PySem.W.dataLe false enc)).map enc) → Q (.ref p) (upd H p (.lst out))
theorem cr_sortDict {k : Nat} (hP : X.prog = W.P) (hw : X.w = W.w) (hK : X.K = W.K) (hcalm : X.calm = true) (hr : Room k X.A) (so : SrtOk enc bs) (hk : ∀ b ∈ bs, keyable (enc b) = true) : CallR X (.builtin "sorted") (rSortDict W enc bs) := by
  intro pins s σ H vs us Q I r h
  obtain ⟨d, kvs, G, rfl, sub, nd, ek, q⟩ := h
  rw [Vals.ref1 r]
  obtain ⟨xs, h1, h2, h3, h4⟩ := nd_heap I hP hw hK sub nd
  obtain ⟨es, ep, raw, hsz, hes⟩ := h3.raw
  have hlen : es.size = bs.length := by
    have := congrArg List.length ek
    rw [List.length_map, List.length_map] at this
    rw [hsz, h4, this]
  refine Calls.call_function_entry PyProof.Rows.kind_sorted PyProof.Rows.plain_sorted PyProof.Rows.entry_sorted (PyProof.Rows.args_sorted1 _) ?_
  unfold Builtin.«sorted»
  refine wpAny_bind (m := checkCount "sorted" 1 1 _) (wpAny_pure ?_)
  refine wpAny_bind (PySem.W.kdu_collect (A := X.A.in1) (KdlSrc.rawDict (prog := X.prog) (w := X.w) nd.nsys) (I.ok.hd hcalm) raw (by rw [hlen]; exact so.small) fun h' tk acc kp hacc => ?_)
  have hal : acc.toList.length = bs.length := by rw [Array.length_toList, hacc.1, hlen]
  have I1 : Inv X pins σ H { s with heap := h', toks := tk } := I.kept kp
  -- what each item stands for
  have each : PySem.W.EachIs (Std W.K G enc) acc.toList bs := by
    have at1 : ∀ (i : Nat) (u : Value) (b : β), acc.toList[i]? = some u → bs[i]? = some b → Std W.K G enc u b := by
      intro i u b hu hb
      obtain ⟨hi, e⟩ := hacc.2 i u (by rw [← Array.getElem?_toList]; exact hu)
      obtain ⟨y, hy, ey, _, _⟩ := hes i hi
      have hkv : (kvs.map (·.1))[i]? = some (enc b) := by rw [ek, List.getElem?_map, hb]; rfl
      rw [List.getElem?_map] at hkv
      obtain ⟨kv, hkv2, ekv⟩ := Option.map_eq_some_iff.mp hkv
      obtain ⟨z, hz, hr2⟩ := paired_get h2 hkv2
      rw [hy] at hz
      cases hz
      rw [e, ey]
      refine ⟨.ref y.2.1, rfl, ?_⟩
      rw [← ekv]
      exact hr2.2.2.1
    have gen : ∀ (us : List Value) (cs : List β), us.length = cs.length → (∀ (i : Nat) (u : Value) (b : β), us[i]? = some u → cs[i]? = some b → Std W.K G enc u b) → PySem.W.EachIs (Std W.K G enc) us cs := by
      intro us
      induction us with
      | nil => intro cs e _; cases cs with
        | nil => exact .nil
        | cons => simp at e
      | cons u us ih => intro cs e f; cases cs with
        | nil => simp at e
        | cons c cs => exact .cons (f 0 u c rfl rfl) (ih cs (by simpa using e) fun i v b q1 q2 => f (i + 1) v b (by simpa using q1) (by simpa using q2))
    exact gen _ _ hal at1
  refine wpAny_bind (wpAny_newList ?_ (by rw [hal]; exact so.small))
  have hoL : (h'.push (seqObj "list" acc.toList.toArray 0)).get? h'.objs.size = some (seqObj "list" acc.toList.toArray 0) := Heap.get?_push_size _ rfl
  have I2 : Inv X pins σ H { s with heap := h'.push (seqObj "list" acc.toList.toArray 0), toks := tk } := I1.kept (t' := tk) fun _ _ e => Heap.get?_push_of_some _ e
  have rd : PySem.W.EachIs (fun v b => ∃ as, Reads (h'.push (seqObj "list" acc.toList.toArray 0)) v (enc b) as ∧ h'.objs.size ∉ as) acc.toList bs := by
    have mem : PySem.W.EachIs (fun v b => Std W.K G enc v b ∧ b ∈ bs) acc.toList bs := PySem.W.each_mem each
    refine each_imp (fun u b ⟨⟨x, r1, q1⟩, hb⟩ => ?_) mem
    obtain ⟨as, ra⟩ := Dp.reads I2 (enc b) x u (by rw [hK]; exact dt_dp sub _ _ q1) r1
    refine ⟨as, ra, ?_⟩
    rw [key_reads _ _ _ ra (hk b hb)]
    intro z
    cases z
  show wpAny _ _ _ _ _ { s with heap := h'.push (seqObj "list" acc.toList.toArray 0), toks := tk }
  refine wpAny_bind (wpAny_holding (PySem.W.list_sort_data (vs := acc.toList) (bs := bs) (enc := enc) (R := Std W.K G enc) (a := h'.objs.size) (n := 0) hoL each rd so.alike so.kind so.small (fun b hb => ?_) fun out hlo ho => ?_))
  · have z := room50 hr (so.depth b hb)
    have e : X.A.in1.units = X.A.units + 1 := rfl
    omega
  obtain ⟨c, hc⟩ := PyProof.Rows.sortedHeap_at (vs := acc.toList) (out := out.toArray) hoL
  obtain ⟨ys, rv2, hy⟩ := each_std ho
  have hp : H h'.objs.size = none := I1.hok.fresh (Nat.le_refl _)
  refine wpAny_pure ⟨_, rfl, .ref h'.objs.size, upd H h'.objs.size (.lst ys), I1.laid (t' := tk) (fun b u e => ?_) (Nat.le_refl _) ⟨?_, out, c, rv2, hc⟩, rfl, q _ ys hp hy⟩
  · have hb : b < h'.objs.size := Heap.lt_size e
    rw [PyProof.Rows.sortedHeap_old (Nat.ne_of_lt hb) (by rw [size_push']; exact Nat.lt_succ_of_lt hb)]
    exact Heap.get?_push_of_some _ e
  · rw [hy.length, List.length_map]
    exact so.merged
end
/-! ### over data -/
section
variable {ι : Type} {W : Wd} {F : ι → Cx} {k : Nat} {Γ : SC} {β : Type} {enc : β → PyData} {bs : List β} {kvs : List (PyData × PyData)} {pos p p2 : Pos}
theorem cd_sortD (fm : Fm W k F) (so : SrtOk enc bs) : CallD W F (.builtin "sorted") [.list (bs.map enc)] (.list ((bs.mergeSort (PySem.W.dataLe false enc)).map enc)) :=
  ⟨rSortData W.K enc bs, fun i => by rw [← fm.K i]; exact cr_sortData (fm.room i) so, fun G H vs s da Q q => by
    obtain ⟨v, rfl, hv⟩ := dtAll1 da
    obtain ⟨l, xs, rfl, h1, h2⟩ := dp_lst hv
    refine ⟨l, xs, G, rfl, s, s _ _ h1, h2, fun p out hp ho => ?_⟩
    have g := Gr.lay (o := .lst out) s hp
    exact q _ _ _ g (.lst upd_same (ho.up g.up))⟩
theorem ex_sortDict {nm : Str} (i : Nat) (fm : Fm W k F) (hi : ∀ j, (F j).N[i]? = some nm) (hv : ∀ j, Vis (F j).env.scope nm) (hg : ∀ j, Gl (F j) "sorted") (hm : W.mg "sorted" = none) (h : Γ[i]? = some (.dk kvs)) (ek : kvs.map (·.1) = bs.map enc) (so : SrtOk enc bs) (hk : ∀ b ∈ bs, keyable (enc b) = true)
    (he : ∀ j, starEach [.Name nm p2] (F j).env = (false, eval (.Name nm p2) (F j).env) :: starEach [] (F j).env := by exact fun _ => rfl) (hpl : ∀ j, (backTo pos (starEach [] (F j).env)).any (·.1) = false := by exact fun _ => rfl)
    (hd : (nm == ("__debug__" : Str)) = false := by decide) (hcd : (nm == ("__classdict__" : Str)) = false := by decide) :
    EX W F (.Call (.Name "sorted" p) [.Name nm p2] [] pos) Γ (.list ((bs.mergeSort (PySem.W.dataLe false enc)).map enc)) :=
  .of (t := tCB (rSortDict W enc bs) (tCons (tVar i) tNil)) (fun j => pe_callB (cr_sortDict (fm.prog j) (fm.w j) (fm.K j) (fm.calm j) (fm.room j) so hk) (hg j) (by rw [fm.mg j]; exact hm) (by decide +kernel) (pa_cons (pe_var (hi j) (hv j) hd hcd) pa_nil (he j)) (by decide) (by decide) (he j) (hpl j)) fun σ G H en Q q => by
    obtain ⟨d, e1, _, nd⟩ := en.dk h
    refine ⟨.ref d, e1, d, kvs, G, rfl, en.sub, nd, ek, fun p out hp ho => ?_⟩
    have g := Gr.lay (o := .lst out) en.sub hp
    exact q _ _ _ g (.lst upd_same (ho.up g.up))
end
end TW
/-! Part 11: name = {key: value for ..} with nested keys; name = [..] of a local name. -/
namespace TW
open PySem PySem.Spec PyProof.Rows L2

section
variable {W : Wd} {X : Cx} {pins : List (Addr × Obj)} {σ : L2.St} {H : Hp} {s : Shared}
theorem room8h {A : Around} {k : Nat} (h : Room k A) : (nestedKind W.P W.w).room A := by
  show A.units + 8 < cLine
  have h1 := h.units
  omega
/-- the comprehension's own store -/
theorem dset_N {k : Nat} {E : Value → Shared → Prop} {D : Addr} {y z : V} {u r : Value} {N : Hp → Prop} {Q : Unit → Shared → Prop} (hP : X.prog = W.P) (hw : X.w = W.w) (hK : X.K = W.K) (hr : Room k X.A) (I : Inv X pins σ H s) (ry : RelV y u) (rz : RelV z r)
    (h : rPutD W (.ref D) y z H N) (hQ : ∀ H' s', Inv X pins σ H' s' → N H' → Q () s') : wpAny (model X.prog X.w) X.A (dictSet D u r) Q E s := by
  obtain ⟨d, a, key, kvs, G, val, e, rfl, sub, ik, dk, nd, hno, dv, hz, q⟩ := h
  cases e
  cases ry
  obtain ⟨xs, h1, h2, h3, h4⟩ := nd_heap I hP hw hK sub nd
  have ki := key_is I hP hw hK sub ik dk
  have hat : atKey xs (toKey key) = none := by
    have z := ent_has h2 key
    rw [hno] at z
    cases e : atKey xs (toKey key) with
    | none => rfl
    | some p => rw [e] at z; cases z
  have I0 := I
  rw [hP, hw]
  refine wpAny_dictSet_heap (knd := nestedKind W.P W.w) (room8h hr) ki h3 (fun h' hd' hs => ?_) (by rw [h4]; exact Nat.le_of_lt hz)
  rw [storedH_new hat] at hd'
  obtain ⟨ob, es, ep, e1, e2, e3, e4, _, e6⟩ := hd'
  have ok : NDo W.P W.w D (xs ++ [(toKey key, a, r)]) h' := ⟨ob, es, ep, e1, e2, e3, e4⟩
  refine hQ (upd H D (.ext (NDo W.P W.w D (xs ++ [(toKey key, a, r)])))) _ (I0.write (e := D) (by rw [h1]; exact True.intro) (.inl rfl) (fun b w hb e => (hs.2 b hb).trans e) ⟨ob, e1⟩ (by rw [hP, hw]; exact ok.ok)) ?_
  refine q _ fun G' H' up e => ⟨nd.nsys, by rw [List.length_append]; exact hz, _, e, e6, ?_⟩
  exact paired_snoc ⟨rfl, ik, dk.up up, z, rz, dv.up up⟩ (Paired.mapP h2 fun _ _ ⟨a, b, c, w, r, q⟩ => ⟨a, b, c.up up, w, r, q.up up⟩)

/-- {k: v for target in iter}: D the new dict -/
def tDcN (W : Wd) (wi : TI) (g : TG) (tk tv : TE) (vs : List Nat) : TE := fun σ H Q => wi σ H fun J H1 => ∀ D, H1 D = none → (D == sysModules) = false → ∃ Z : Nat → Nat → Hp → Prop, (∃ m, Z 0 m (upd H1 D (.ext (NDo W.P W.w D [])))) ∧ ∀ i m H, Z i m H →
  (J.stop i H ∧ Q (.ref D) H) ∨ (J.go i H ∧ ∃ Nx : Hp → Prop, (∀ H', Nx H' → ∃ m', m' < m ∧ Z (i + 1) m' H') ∧ ∀ x H', J.yld i H x H' → g x (L2.wipe σ vs) H' fun σ2 H2 => L2.wipe σ2 vs = L2.wipe σ vs ∧
    tk σ2 H2 fun y H3 => tv σ2 H3 fun z H4 => rPutD W (.ref D) y z H4 Nx)
theorem dcN_core {k : Nat} {Q : VK} {kx vx tg iter : Expr} {sco : Scope} {own : List (Str × Nat)} {pos pos' : Pos} {wi : TI} {g : TG} {tk tv : TE} {us : Option (Value → Sem Unit)} {Qf : Value → Shared → Prop}
    (hP : X.prog = W.P) (hw : X.w = W.w) (hK : X.K = W.K) (hr : Room k X.A) (hc : X.calm = true) (hN : X.N.Nodup) (I : Inv X pins σ H s) (hi : PI X tg iter wi) (bo : BlkOk X.N X.env.scope sco own)
    (hg : ∀ (s0 : Shared) (h0 : Hp) (C : Addr) (cl : List (Str × Addr)) (fp : List Addr), PG (X.blk s0 h0 sco (compEnvC sco cl C X.env) fp) tg g)
    (hk : ∀ (s0 : Shared) (h0 : Hp) (C : Addr) (cl : List (Str × Addr)) (fp : List Addr), PE (X.blk s0 h0 sco (compEnvC sco cl C X.env) fp) kx tk)
    (hv : ∀ (s0 : Shared) (h0 : Hp) (C : Addr) (cl : List (Str × Addr)) (fp : List Addr), PE (X.blk s0 h0 sco (compEnvC sco cl C X.env) fp) vx tv) (hs : ∀ x, foldedSetIterable iter X.env x = pure x)
    (h : tDcN W wi g tk tv (own.map (·.2)) σ H Q)
    (fin : ∀ D C s' m H', Inv X pins σ H' s' → Q (.ref D) H' → s'.heap.Ns C m → FpOk X pins H' C → compPost (model X.prog X.w) X.A X.xe us Qf (.ref D) C (.ok .next) s') :
    wpAny (model X.prog X.w) X.A (comprehension (.DictComp kx vx [⟨tg, iter, [], 0⟩] sco pos) sco X.env pos' newDict false (eval iter X.env) us) Qf X.xe s := by
  have fre : ∀ y ∈ sco.names, y.2 = .free → ∃ c, X.env.cells.lookup y.1 = some c := fun y hy e => (bo.free y hy e).elim (fun q => I.ok.has _ (.inl q)) (fun q => I.ok.has _ (.inr q))
  refine wpAny_comprehension_free (use := us) rfl hs (closure_ok fre) bo.kind (fun y hy e => by rw [bo.uniq y hy, e]) (thn (hi.run pins s σ H _ I h) fun _ s1 b1 => thn b1 fun _ s2 b2 => ?_)
  obtain ⟨it, fp, tn, J, Ha, e, Ia, T, sta, fa, q⟩ := b2
  subst e
  refine wpAny_newObj_type (newEnv_comp ?_)
  generalize eD : s2.heap.objs.size = D
  have fD : Ha D = none := Ia.hok.fresh (Nat.le_of_eq eD)
  obtain ⟨Z, ⟨z0, w0⟩, turn⟩ := q D fD (by rw [← eD]; exact beq_eq_false_iff_ne.mpr (Nat.ne_of_gt Ia.big))
  generalize eb : ({ s2 with heap := s2.heap.push { cls := .type "dict", data := .dict #[] } } : Shared) = sb
  have Ib : Inv X pins σ (upd Ha D (.ext (NDo W.P W.w D []))) sb := by
    rw [← eb]
    refine Ia.laid (t' := s2.toks) (fun b o e => Heap.get?_push_of_some _ e) (Nat.le_of_eq eD) ?_
    have ok : NDo W.P W.w D [] (s2.heap.push { cls := .type "dict", data := .dict #[] }) := by
      rw [← eD]
      obtain ⟨o, es, ep, r1, r2, r3, r4, _⟩ := Heap.DictOfH.new (knd := nestedKind W.P W.w) s2.heap
      exact ⟨o, es, ep, r1, r2, r3, r4⟩
    rw [hP, hw]
    exact ok.ok
  have hpb : sb.heap = s2.heap.push { cls := .type "dict", data := .dict #[] } := by rw [← eb]
  have szb : ∀ b ∈ fp, b < s2.heap.objs.size := fun b hb => Heap.lt_size (T.obj _ _ sta b hb).choose_spec.1
  generalize eH : upd Ha D (.ext (NDo W.P W.w D [])) = Hb at Ib w0
  have fb : ∀ b ∈ fp, FpOk X pins Hb b ∧ b < sb.heap.objs.size := fun b hb => by
    have lt := szb b hb
    refine ⟨⟨?_, (fa b hb).2⟩, by rw [hpb, Heap.size_push]; exact Nat.lt_succ_of_lt lt⟩
    rw [← eH, upd_ne (by rw [← eD]; exact Nat.ne_of_lt lt)]
    exact (fa b hb).1
  have stb : tn 0 sb.heap := T.keep _ _ _ sta fun b _ o e => by rw [hpb]; exact Heap.get?_push_of_some _ e
  have Ic := block_start Ib bo hN fb
  have pg := hg sb Hb sb.heap.objs.size (cellsFrom (sb.heap.objs.size + 1) sco.names (cloFrom X.env.cells sco.names [])) fp
  have pk := hk sb Hb sb.heap.objs.size (cellsFrom (sb.heap.objs.size + 1) sco.names (cloFrom X.env.cells sco.names [])) fp
  have pv := hv sb Hb sb.heap.objs.size (cellsFrom (sb.heap.objs.size + 1) sco.names (cloFrom X.env.cells sco.names [])) fp
  show codeAny _ _ (.compStart (.DictComp kx vx [⟨tg, iter, [], 0⟩] sco pos) 0 (.ref it) (.ref D) (compEnvC sco (cellsFrom (sb.heap.objs.size + 1) sco.names (cloFrom X.env.cells sco.names [])) sb.heap.objs.size X.env)) (compPost (model X.prog X.w) X.A X.xe us Qf (.ref D) sb.heap.objs.size) { sb with heap := pushCells (sb.heap.push { cls := .type "dict", data := .dict #[] }) sco.names }
  have nb : ∀ b ∈ fp, Hb b = none := fun b hb => (fb b hb).1.1
  generalize ece : compEnvC sco (cellsFrom (sb.heap.objs.size + 1) sco.names (cloFrom X.env.cells sco.names [])) sb.heap.objs.size X.env = ce at Ic pg pk pv ⊢
  have cloc : ce.locals = sb.heap.objs.size := by subst ece; rfl
  generalize esc : ({ sb with heap := pushCells (sb.heap.push { cls := .type "dict", data := .dict #[] }) sco.names } : Shared) = sc at Ic ⊢
  have stc : tn 0 sc.heap := T.keep _ _ _ stb fun b _ o e => by rw [← esc]; exact pushCells_keeps _ _ _ _ (Heap.get?_push_of_some _ e)
  have quiet : ∀ {σ' : L2.St} {H' : Hp} {s' : Shared}, Inv (X.blk sb Hb sco ce fp) [] σ' H' s' → (∀ b ∈ fp, H' b = none) → ∀ b ∈ fp, FpOk (X.blk sb Hb sco ce fp) [] H' b := fun {σ' H' s'} I' hn b hb =>
    ⟨hn b hb, (I'.ok.exf b hb).1, I'.ok.exfs b hb, .inl hb, (I'.ok.exf b hb).2, fun p hp => absurd (show p ∈ ([] : List (Addr × Obj)) ++ [] from hp) (by simp)⟩
  have loop : codeAny (model X.prog X.w) X.A (.compLoop (.DictComp kx vx [⟨tg, iter, [], 0⟩] sco pos) 0 (.ref it) (.ref D) ce) (compPost (model X.prog X.w) X.A X.xe us Qf (.ref D) sb.heap.objs.size) sc := by
    refine compLoop_anyD (fun n s' => ∃ i H', Inv (X.blk sb Hb sco ce fp) [] (L2.wipe σ (own.map (·.2))) H' s' ∧ tn i s'.heap ∧ (∀ b ∈ fp, H' b = none) ∧ Z i n H') ?_ z0 ⟨0, Hb, Ic, stc, nb, w0⟩
    rintro n s5 ⟨i, H5, I5, st5, n5, w5⟩
    rcases turn i n H5 w5 with ⟨stop, qq⟩ | ⟨go, Nx, hNx, step⟩
    · refine thnF (T.done (X.blk sb Hb sco ce fp) rfl rfl rfl hc i [] s5 _ H5 (fun _ _ => False) I5 (quiet I5 n5) st5 stop) fun r s6 ⟨er, I6⟩ => ?_
      subst er
      have I7 : Inv X pins σ H5 s6 := Ib.call' (ch := fp) I6.os I6.base I6.hok I6.bare fun b hb => let ⟨_, c1, _, c3, c4, c5⟩ := (fb b hb).1; ⟨c3, c1, c4, c5⟩
      have nC : H5 sb.heap.objs.size = none := by rw [← cloc]; exact (I6.free : H5 ce.locals = none)
      obtain ⟨m, hn, _⟩ := I6.loc
      have hn : s6.heap.Ns ce.locals m := hn
      exact fin D sb.heap.objs.size s6 m H5 I7 qq (by rw [← cloc]; exact hn) (Ib.fpOk (Nat.le_refl _) nC)
    · refine thnF (T.item (X.blk sb Hb sco ce fp) rfl rfl rfl hc i [] s5 _ H5 (fun _ _ => False) I5 (quiet I5 n5) st5 go) fun r s6 ⟨u, er, h6⟩ => ?_
      subst er
      refine thnF h6 fun _ s7 ⟨x, H7, I7, r7, y7, st7, n7⟩ => ?_
      refine thnF (pg.run _ s7 _ H7 x u _ (I7.pinned (quiet I7 n7) (T.obj _ _ st7)) r7 (step x H7 y7)) fun _ s8 ⟨σ8, H8, I8, hw8, q8⟩ => ?_
      refine thnF ((pts_nil (X := X.blk sb Hb sco ce fp)).run _ s8 σ8 H8 _ I8 (show tYes σ8 H8 (fun b H => b = true ∧ H = H8) from ⟨rfl, rfl⟩)) fun b s9 ⟨H9, I9, eb9, eH9⟩ => ?_
      subst eb9 eH9
      simp only [if_true]
      refine thnF (pk.run _ s9 σ8 _ _ I9 q8) fun u1 sA ⟨yk, HA, IA, rA, qA⟩ => ?_
      refine thnF (pv.run _ sA σ8 HA _ IA qA) fun u2 sB ⟨yv, HB, IB, rB, qB⟩ => ?_
      refine dset_N (X := X.blk sb Hb sco ce fp) (k := k) hP hw hK hr IB rA rB qB fun H' s' I' nx => ?_
      obtain ⟨m', hm, w'⟩ := hNx H' nx
      have keep : ∀ b ∈ fp, ∀ o, s7.heap.get? b = some o → s'.heap.get? b = some o ∧ H' b = none := fun b hb o e =>
        let z := I'.pin (b, o) (List.mem_append_right _ (List.mem_append_right _ (mem_pinsAt hb e)))
        ⟨z.1, z.2.1⟩
      refine ⟨m', hm, i + 1, H', (I'.unpinned (pins := [])).weak (by rw [← hw8, wipe_length]) (fun j v e => by rw [← hw8] at e; exact (wipe_some e).1), T.keep _ _ _ st7 fun b hb o e => (keep b hb o e).1, fun b hb => ?_, w'⟩
      obtain ⟨o, e, _⟩ := T.obj _ _ st7 b hb
      exact (keep b hb o e).2
  exact codeAny_compStart_dict loop (T.self X.A 0 _ _ _ stc loop)
theorem ps_setDcN {k : Nat} {i : Nat} {y : Str} {py : Pos} {kx vx tg iter : Expr} {sco : Scope} {own : List (Str × Nat)} {pos spos : Pos} {wi : TI} {g : TG} {tk tv : TE} (hP : X.prog = W.P) (hw : X.w = W.w) (hK : X.K = W.K) (hr : Room k X.A) (hc : X.calm = true) (hN : X.N.Nodup) (hy : X.N[i]? = some y) (hyl : X.env.scope.names.lookup y = some .local)
    (hsw : swapsWith (.DictComp kx vx [⟨tg, iter, [], 0⟩] sco pos) (some (.Name y py)) spos.line X.env = pure true) (hi : PI X tg iter wi) (bo : BlkOk X.N X.env.scope sco own)
    (hg : ∀ (s0 : Shared) (h0 : Hp) (C : Addr) (cl : List (Str × Addr)) (fp : List Addr), PG (X.blk s0 h0 sco (compEnvC sco cl C X.env) fp) tg g)
    (hk : ∀ (s0 : Shared) (h0 : Hp) (C : Addr) (cl : List (Str × Addr)) (fp : List Addr), PE (X.blk s0 h0 sco (compEnvC sco cl C X.env) fp) kx tk)
    (hv : ∀ (s0 : Shared) (h0 : Hp) (C : Addr) (cl : List (Str × Addr)) (fp : List Addr), PE (X.blk s0 h0 sco (compEnvC sco cl C X.env) fp) vx tv) (hs : ∀ x, foldedSetIterable iter X.env x = pure x) :
    PS X (.Assign [.Name y py] (.DictComp kx vx [⟨tg, iter, [], 0⟩] sco pos) spos) (tAsg (tDcN W wi g tk tv (own.map (·.2))) (gName i)) := by
  refine ⟨fun pins s σ H D I h => ?_⟩
  rw [exec_Assign_Name_used _ _ _ _ hsw]
  refine wpAny_bind (wpAny_standAt (wpAny_bind ?_))
  show wpAny _ X.A (do let _ ← comprehension (.DictComp kx vx [⟨tg, iter, [], 0⟩] sco pos) sco X.env (firstIterPos [⟨tg, iter, [], 0⟩] pos) newDict false (eval iter X.env) (some (assign (.Name y py) X.env))) _ _ s
  have h : tDcN W wi g tk tv (own.map (·.2)) σ H (fun x H1 => gName i x σ H1 D.nx) := h
  refine wpAny_bind (thn (dcN_core (Qf := fun _ s' => SP X pins D .next s') hP hw hK hr hc hN I hi bo hg hk hv hs h fun L C s' m H' I' q hn ⟨f0, f1, f2, f3, f4, f5⟩ => ?_) fun _ _ hq => wpAny_pure (wpAny_pure hq))
  show wpAny _ _ (assign (.Name y py) X.env (.ref L)) _ _ _
  refine wpAny_assign_Name (store_ok2 (v := V.ref L) I' hN hy (.inl hyl) rfl (fun t2 I2 ⟨a, sb, ha⟩ => ?_) (.inr hyl))
  have haC : C ≠ a := fun e => by
    subst e
    rcases ha with r | r
    · exact f1 r
    · exact f4 y _ r rfl
  refine ⟨m, hn.sameBut sb haC, fun h3 sb3 => ?_⟩
  exact ⟨_, H', I2.turned (t' := t2.toks) (fun b o hb e => (sb3.2 b hb).trans e) f0 f1 f3 f4 f5, q⟩
end
end TW
/-! Part 12: comprehensions as statements; a dict as an argument. -/
namespace TW
open PySem PySem.Spec PyProof.Rows L2
section
variable {ι : Type} {W : Wd} {F : ι → Cx} {k : Nat} {Γ : SC} {a b e tg iter elt kx vx : Expr} {es : List Expr} {x y z d : PyData} {ds ys : List PyData} {pos p : Pos} {kvs : List (PyData × PyData)}
/-- name = [..], the name a local on the same row -/
theorem sx_setLc {α : Type} {scope : Scope} {ifs : List Expr} {nm : Str} {py spos : Pos} (i : Nat) (own : List (Str × Nat)) (T : Tg) (xs : List α) (enc : α → PyData) (pr : α → Bool) (f : α → PyData) (fm : Fm W k F) (hN : ∀ j, (F j).N[i]? = some nm) (hl : ∀ j, (F j).env.scope.names.lookup nm = some .local)
    (hsw : ∀ j, swapsWith (.ListComp elt [⟨tg, iter, ifs, 0⟩] scope pos) (some (.Name nm py)) spos.line (F j).env = pure true)
    (hi : IX W F tg iter Γ (xs.map enc)) (ok : ∀ j, BlkOk (F j).N (F j).env.scope scope own) (hg : PGX W (blkF F scope) tg T) (hT : ∀ i ∈ T.is, i ∈ own.map (·.2)) (fits : ∀ u ∈ xs, T.fits (enc u))
    (ht : ∀ u ∈ xs, Ifs W (blkF F scope) ifs (T.put (wipeC Γ (own.map (·.2))) (enc u)) (pr u)) (he : ∀ u ∈ xs, pr u = true → EX W (blkF F scope) elt (T.put (wipeC Γ (own.map (·.2))) (enc u)) (f u)) (hz : xs.length ≤ sizeLine) (hif : ifs.length ≤ 1 := by decide)
    (hs : ∀ j x, foldedSetIterable iter (F j).env x = pure x := by exact fun _ _ => rfl) : SX W F (.Assign [.Name nm py] (.ListComp elt [⟨tg, iter, ifs, 0⟩] scope pos) spos) Γ (.nx (Γ.set i (.mu ((xs.filter pr).map f)))) :=
  .of (t := tAsg (tLc (TIw F tg iter) (gOf W.K T) (TTsw (blkF F scope) ifs) (TEw (blkF F scope) elt) (own.map (fun (q : Str × Nat) => q.2))) (gName i))
    (fun j => ps_setLc (fm.calm j) (fm.nd j) (hN j) (hl j) (hsw j) (pi_w j) (ok j) (fun s H C cl fp => hg (j, s, H, C, cl, fp)) (fun s H C cl fp => Ifs.pt (F := blkF F scope) hif (j, s, H, C, cl, fp)) (fun s H C cl fp => pe_w (F := blkF F scope) (j, s, H, C, cl, fp)) (hs j))
    fun σ G H en D q => (evl_lc (vs := own.map (fun (q : Str × Nat) => q.2)) (tt := TTsw (blkF F scope) ifs) (te := TEw (blkF F scope) elt) hi hT fits (fun u hu => (ht u hu).ev) he hz) σ G H en (fun x H1 => gName i x σ H1 D.nx) fun l vs G' H' h0 g h1 h2 dv => q _ G' H' g.mr (en.setNew i h0 g h1 h2 dv) fun l' ol => by
      rcases own_set ol with r | ⟨_, r⟩
      · exact .inl r
      · cases r; exact .inr h0
/-- thawed again -/
def less (G : Hp) (l : Addr) : Hp := fun b => if b = l then none else G b
theorem less_at {G : Hp} {l : Addr} : less G l l = none := if_pos rfl
theorem less_ne {G : Hp} {l b : Addr} (h : b ≠ l) : less G l b = G b := if_neg h
theorem gr_thaw {G H G' H' : Hp} {l : Addr} {o : HO} (h0 : G l = none) (h1 : H l = some o) (g : Gr (upd G l o) H G' H') : Gr G H (less G' l) H' := by
  have up1 : Same G (upd G l o) := same_laid h0
  refine ⟨g.same, fun b u e => ?_, fun b u e => ?_, fun b e n => ?_⟩
  · rw [less_ne (ne_of_none e h0)]; exact g.up b u (up1 b u e)
  · by_cases hb : b = l
    · subst hb; rw [less_at] at e; cases e
    · rw [less_ne hb] at e; exact g.sub b u e
  · by_cases hb : b = l
    · subst hb; rw [less_at] at n; exact absurd rfl n
    · rw [less_ne hb] at n
      exact g.new b (by rw [upd_ne hb]; exact e) n
mutual
theorem dt_thaw {K : PySem.W.Frag} {G : Hp} {l : Addr} {xs : List V} (h : G l = some (.lst xs)) : ∀ (d : PyData) (v : V), Dt K G v d → keyable d = true → Dt K (less G l) v d
  | .int _, _, q, _ => by cases q; exact .int _
  | .tuple ds, _, q, k => by
    cases q with
    | @tup a ys _ h1 h2 =>
      refine .tup ?_ (dtAll_thaw h ds _ h2 (by simpa [keyable] using k))
      rcases h1 with (r | ⟨o, r⟩) | r
      · exact .inl (.inl (by rw [less_ne (fun z => by subst z; rw [h] at r; cases r)]; exact r))
      · exact .inl (.inr ⟨o, by rw [less_ne (fun z => by subst z; rw [h] at r; cases r)]; exact r⟩)
      · exact .inr r
  | .none, _, _, k => by simp [keyable] at k
  | .bool _, _, _, k => by simp [keyable] at k
  | .str _, _, _, k => by simp [keyable] at k
  | .list _, _, _, k => by simp [keyable] at k
  | .dict _, _, _, k => by simp [keyable] at k
theorem dtAll_thaw {K : PySem.W.Frag} {G : Hp} {l : Addr} {xs : List V} (h : G l = some (.lst xs)) : ∀ (ds : List PyData) (vs : List V), DtAll K G vs ds → keyables ds = true → DtAll K (less G l) vs ds
  | [], _, q, _ => by cases q; exact .nil
  | d :: ds, _, q, k => by
    have k' : keyable d = true ∧ keyables ds = true := by simpa [keyables] using k
    cases q with
    | cons h1 h2 => exact .cons (dt_thaw h d _ h1 k'.1) (dtAll_thaw h ds _ h2 k'.2)
end
theorem hasD_no {ks : List PyData} {v : PyData → PyData} {u : PyData} (h : u ∉ ks) (hk : ∀ y ∈ ks, keyable y = true) (hu : keyable u = true) : hasD (ks.map fun y => (y, v y)) u = false := by
  unfold hasD
  rw [List.any_eq_false]
  intro p hp
  obtain ⟨y, hy, rfl⟩ := List.mem_map.mp hp
  intro e
  have e2 := toKey_inj y u (hk y hy) hu (by simpa using e)
  exact h (e2 ▸ hy)
theorem own_thaw {σ : L2.St} {iw : Nat} {l : Addr} (h : Own σ (Γ.set iw (.im z)) l) : Own σ Γ l := by
  obtain ⟨j, t, h1, h2, h3⟩ := h
  by_cases hj : iw = j
  · subst hj
    by_cases hi : iw < Γ.length
    · rw [List.getElem?_set_self hi] at h1; cases h1; cases h2
    · rw [List.getElem?_eq_none (by simpa using hi)] at h1; cases h1
  · rw [List.getElem?_set_ne hj] at h1
    exact ⟨j, t, h1, h2, h3⟩
/-- name = {k: v for k in xs}, xs an owned list of keys -/
theorem sx_newDc {sco : Scope} {nm : Str} {py spos : Pos} (i iw iT : Nat) (own : List (Str × Nat)) (fm : Fm W k F) (hN : ∀ j, (F j).N[i]? = some nm) (hl : ∀ j, (F j).env.scope.names.lookup nm = some .local) (hw : Γ[iw]? = some (.mu ds))
    (hsw : ∀ j, swapsWith (.DictComp kx vx [⟨tg, iter, [], 0⟩] sco pos) (some (.Name nm py)) spos.line (F j).env = pure true)
    (hi : IX W F tg iter (Γ.set iw (.im (.list ds))) ds) (bo : ∀ j, BlkOk (F j).N (F j).env.scope sco own) (hg : PGX W (blkF F sco) tg (.nm iT)) (hT : iT ∈ own.map (·.2))
    (hk : ∀ u ∈ ds, EX W (blkF F sco) kx ((wipeC (Γ.set iw (.im (.list ds))) (own.map (·.2))).set iT (.im u)) u) (hv : ∀ u ∈ ds, EX W (blkF F sco) vx ((wipeC (Γ.set iw (.im (.list ds))) (own.map (·.2))).set iT (.im u)) (.bool true))
    (key : ∀ u ∈ ds, isKey u ∧ ∃ us, u = .tuple us) (nd : ds.Nodup) (hz : ds.length ≤ sizeLine) (hs : ∀ j x, foldedSetIterable iter (F j).env x = pure x := by exact fun _ _ => rfl) :
    SX W F (.Assign [.Name nm py] (.DictComp kx vx [⟨tg, iter, [], 0⟩] sco pos) spos) Γ (.nx (Γ.set i (.dk (ds.map fun u => (u, .bool true))))) :=
  .of (t := tAsg (tDcN W (TIw F tg iter) (gOf W.K (.nm iT)) (TEw (blkF F sco) kx) (TEw (blkF F sco) vx) (own.map (fun (q : Str × Nat) => q.2))) (gName i))
    (fun j => ps_setDcN (k := k) (fm.prog j) (fm.w j) (fm.K j) (fm.room j) (fm.calm j) (fm.nd j) (hN j) (hl j) (hsw j) (pi_w j) (bo j) (fun s H C cl fp => hg (j, s, H, C, cl, fp)) (fun s H C cl fp => pe_w (F := blkF F sco) (j, s, H, C, cl, fp)) (fun s H C cl fp => pe_w (F := blkF F sco) (j, s, H, C, cl, fp)) (hs j))
    fun σ G H en D q => by
      obtain ⟨l, vs, e1, e2, e3, e4⟩ := en.mu hw
      have enf : Nv W (upd G l (.lst vs)) H σ (Γ.set iw (.im (.list ds))) := by
        obtain ⟨G1, _, en', _⟩ := en.freeze hw
        have sub : Same (upd G l (.lst vs)) H := fun b u q => by
          by_cases hb : b = l
          · subst hb; rw [upd_same] at q; cases q; exact e2
          · rw [upd_ne hb] at q; exact en.sub b u q
        have up : Same G (upd G l (.lst vs)) := same_laid e3
        have at1 : ∀ {j : Nat} {s : Slot}, (Γ.set iw (.im (.list ds)))[j]? = some s → (j = iw ∧ s = .im (.list ds)) ∨ (j ≠ iw ∧ Γ[j]? = some s) := fun {j s} q => by
          by_cases hj : iw = j
          · subst hj
            rw [List.getElem?_set_self (List.getElem?_eq_some_iff.mp hw).1] at q
            exact .inl ⟨rfl, (Option.some.inj q).symm⟩
          · rw [List.getElem?_set_ne hj] at q
            exact .inr ⟨fun z => hj z.symm, q⟩
        refine ⟨sub, by simpa using en.len, fun j s q r => ?_, en'.apart⟩
        rcases at1 q with ⟨rfl, rfl⟩ | ⟨hj, q⟩
        · exact ⟨_, e1, .lst upd_same (e4.up up)⟩
        · obtain ⟨v, r1, r2⟩ := en.at' j s q r
          refine ⟨v, r1, ?_⟩
          have ap : ∀ l', s.ptr = true → v = .ref l' → l' ≠ l := fun l' hp hv' z => by
            subst z
            exact en.apart iw j (.mu ds) s l' (fun z => hj z.symm) hw q rfl hp e1 (by rw [r1, hv'])
          cases s with
          | un => trivial
          | im d => exact Dt.up r2 up
          | mu es =>
            obtain ⟨l', ws, rfl, q1, q2, q3⟩ := r2
            exact ⟨l', ws, rfl, q1, by rw [upd_ne (ap l' rfl rfl)]; exact q2, q3.up up⟩
          | dk kvs =>
            obtain ⟨d', rfl, q1, q2⟩ := r2
            exact ⟨d', rfl, by rw [upd_ne (ap d' rfl rfl)]; exact q1, q2.up up fun _ z => z⟩
          | dr kvs =>
            obtain ⟨d', rfl, q2⟩ := r2
            exact ⟨d', rfl, q2.up up fun _ z => z⟩
          | sq ns => obtain ⟨a, rfl, q⟩ := r2; exact ⟨a, rfl, sql_up up q⟩
      refine hi σ _ H enf _ fun J G1 H1 g1 ru A hA hsys => ?_
      have key' : ∀ u ∈ ds, keyable u = true := fun u hu => (key u hu).1.1
      refine ⟨fun t m H' => m = ds.length - t ∧ t ≤ ds.length ∧ ∃ G', Gr G1 H1 G' H' ∧ G' A = none ∧ ND W G' H' A ((ds.take t).map fun u => (u, .bool true)),
        ⟨_, rfl, Nat.zero_le _, G1, Gr.own g1.sub hA, g1.sub.free hA, ⟨hsys, Nat.zero_le _, [], upd_same, List.nodup_nil, .nil⟩⟩, ?_⟩
      rintro t m H' ⟨rfl, ht, G', g, nA, ndA⟩
      obtain ⟨go, st⟩ := ru G' H' g.up g.sub
      by_cases hlt : t < ds.length
      · have hy : ds[t]? = some ds[t] := List.getElem?_eq_getElem hlt
        have hm : ds[t] ∈ ds := List.getElem_mem hlt
        obtain ⟨g0, gy⟩ := go t _ hy
        refine .inr ⟨g0, fun H'' => ∃ G'', Gr G1 H1 G'' H'' ∧ G'' A = none ∧ ND W G'' H'' A ((ds.take (t + 1)).map fun u => (u, .bool true)), fun H'' n => ⟨ds.length - (t + 1), by omega, rfl, hlt, n⟩, fun v H2 yl => ?_⟩
        obtain ⟨G2, g2, dv⟩ := gy v H2 yl
        have en2 := ((((enf.gr g1).gr g).gr g2).wipe (own.map (·.2)))
        obtain ⟨_, _, xs, hxs, _⟩ := id ndA
        have n2 : G2 A = none := gr_free g2 nA hxs
        have nd2 := ndA.up g2.up fun o => g2.same A o
        refine g_put (T := .nm iT) en2 dv trivial fun σ' en3 w _ => ⟨(w (own.map (·.2)) (fun i hi => by cases hi with | head => exact hT | tail _ h => cases h)).trans wipe_idem, ?_⟩
        refine hk _ hm σ' G2 H2 en3 _ fun ky G3 H3 g3 d3 => hv _ hm σ' G3 H3 (en3.gr g3) _ fun vl G4 H4 g4 d4 => ?_
        obtain ⟨us, eu⟩ := (key _ hm).2
        obtain ⟨ka, rfl⟩ := dt_key (eu ▸ d3)
        have gg := ((g.trans g2).trans g3).trans g4
        have nd4 := (nd2.up g3.up fun o => g3.same A o).up g4.up fun o => g4.same A o
        have n4 : G4 A = none := by
          obtain ⟨_, _, ws, hws, _⟩ := id nd2
          exact gr_free g4 (gr_free g3 n2 hws) (g3.same _ _ hws)
        have etk : ds.take (t + 1) = ds.take t ++ [ds[t]] := by rw [List.take_add_one, hy]; rfl
        refine ⟨A, ka, _, _, G4, .bool true, rfl, rfl, gg.sub, (key _ hm).1, d3.up g4.up, nd4, hasD_no (v := fun _ => .bool true) (fun h => ?_) (fun y hy => key' y (List.mem_of_mem_take hy)) (key' _ hm), d4, ?_, fun ws mk => ?_⟩
        · rw [List.mem_take_iff_getElem] at h
          obtain ⟨j, hj, e⟩ := h
          have : j = t := (List.getElem_inj nd).mp (by simpa using e)
          omega
        · rw [List.length_map, List.length_take]; omega
        · refine ⟨G4, ⟨fun b o h => ?_, gg.up, fun b o h => ?_, gg.new⟩, n4, ?_⟩
          · rw [upd_ne (ne_of_none h hA)]; exact gg.same b o h
          · rw [upd_ne (ne_of_none h n4)]; exact gg.sub b o h
          · rw [etk, List.map_append]
            exact mk G4 _ (Same.refl _) upd_same
      · have e : t = ds.length := by omega
        subst e
        rw [List.take_length] at ndA
        refine .inl ⟨st, ?_⟩
        have gA := g1.trans g
        have gT := gr_thaw e3 e2 gA
        have kl : G' l = some (.lst vs) := gA.up _ _ upd_same
        have ndT : ND W (less G' l) H' A (ds.map fun u => (u, .bool true)) := by
          obtain ⟨c1, c2, xs, c3, c4, c5⟩ := ndA
          refine ⟨c1, c2, xs, c3, c4, ?_⟩
          have : ∀ {us : List PyData} {xs : List (NestedKey × Addr × Value)}, (∀ u ∈ us, keyable u = true) → Paired (EntOk W.K G') (us.map fun u => (u, PyData.bool true)) xs → Paired (EntOk W.K (less G' l)) (us.map fun u => (u, PyData.bool true)) xs := by
            intro us
            induction us with
            | nil => intro xs _ h; cases h; exact .nil
            | cons u us ih =>
              intro xs hu h
              cases h with
              | cons r t =>
                obtain ⟨r1, r2, r3, v, r4, r5⟩ := r
                exact .cons ⟨r1, r2, dt_thaw kl _ _ r3 (hu u (List.mem_cons_self ..)), v, r4, flat_dt rfl r5⟩ (ih (fun w hw => hu w (List.mem_cons_of_mem _ hw)) t)
          exact this key' c5
        have hA0 : H A = none := g1.same.free hA
        have nA' : less G' l A = none := by
          unfold less
          split
          · rfl
          · exact nA
        refine q _ (less G' l) H' gT.mr (en.setNewD i hA0 gT nA' ndT) fun l' ol => ?_
        rcases own_set ol with r | ⟨_, r⟩
        · exact .inl r
        · cases r; exact .inr hA0

/-! ### a dict as the last argument -/
def EvAr (W : Wd) (t : TA) (Γ : SC) (ds : List PyData) (kvs : List (PyData × PyData)) : Prop := ∀ σ G H, Nv W G H σ Γ → ∀ Q : List V → Hp → Prop, (∀ vs dd G' H', Gr G H G' H' → DtAll W.K G' vs ds → ND W G' H' dd kvs → Q (vs ++ [.ref dd]) H') → t σ H Q
def EAr (W : Wd) (F : ι → Cx) (es : List Expr) (Γ : SC) (ds : List PyData) (kvs : List (PyData × PyData)) : Prop := EvAr W (TAw F es) Γ ds kvs
theorem EAr.of {t : TA} (h : ∀ i, PA (F i) es t) (ev : EvAr W t Γ ds kvs) : EAr W F es Γ ds kvs := fun σ G H en Q q i pos pins s I => (h i).run pos pins s σ H Q I (ev σ G H en Q q)
theorem ear_dk {nm : Str} (i : Nat) (hN : ∀ j, (F j).N[i]? = some nm) (hv : ∀ j, Vis (F j).env.scope nm) (h : Γ[i]? = some (.dk kvs)) (hs : ∀ j, starEach [.Name nm p] (F j).env = (false, eval (.Name nm p) (F j).env) :: starEach [] (F j).env := by exact fun _ => rfl)
    (hd : (nm == ("__debug__" : Str)) = false := by decide) (hcd : (nm == ("__classdict__" : Str)) = false := by decide) : EAr W F [.Name nm p] Γ [] kvs :=
  .of (t := tCons (tVar i) tNil) (fun j => pa_cons (pe_var (hN j) (hv j) hd hcd) pa_nil (hs j)) fun σ G H en Q q => by
    obtain ⟨dd, e1, _, nd⟩ := en.dk h
    exact ⟨.ref dd, e1, q [] dd G H en.refl .nil nd⟩
theorem ear_cons (he : EX W F e Γ d) (hr : EAr W F es Γ ds kvs) (h : ∀ j, starEach (e :: es) (F j).env = (false, eval e (F j).env) :: starEach es (F j).env := by exact fun _ => rfl) : EAr W F (e :: es) Γ (d :: ds) kvs :=
  .of (fun j => pa_cons (pe_w j) (pa_w j) (h j)) fun σ G H en Q q => he σ G H en _ fun v G1 H1 g1 d1 => hr σ G1 H1 (en.gr g1) _ fun vs dd G2 H2 g2 d2 nd => q (v :: vs) dd G2 H2 (g1.trans g2) (.cons (d1.up g2.up) d2) nd
def spR (W : Wd) (rel : List PyData → List (PyData × PyData) → PyData → Prop) : Sp := fun vs H Q _ => ∃ G ds dd kvs d vs0, vs = vs0 ++ [.ref dd] ∧ Same G H ∧ DtAll W.K G vs0 ds ∧ ND W G H dd kvs ∧ rel ds kvs d ∧ ∀ v G' H', Gr G H G' H' → Dt W.K G' v d → Q v H'
theorem ex_callR {nm : Str} {ps : List Str} {rel : List PyData → List (PyData × PyData) → PyData → Prop} {j : Nat} (fm : Fm W k F) (D : Def W j nm ps (spR W rel)) (hj : j ≤ k) (hg : ∀ i, Gl (F i) nm) (ha : EAr W F (e :: es) Γ ds kvs) (hr : rel ds kvs d) (hdb : (nm == ("__debug__" : Str)) = false := by decide)
    (he : ∀ i, starEach (e :: es) (F i).env = (false, eval e (F i).env) :: starEach es (F i).env := by exact fun _ => rfl) (hpl : ∀ i, (backTo pos (starEach es (F i).env)).any (·.1) = false := by exact fun _ => rfl) : EX W F (.Call (.Name nm p) (e :: es) [] pos) Γ d :=
  .of (pe_def fm D hj hg hdb he hpl) fun σ G H en Q q => ha σ G H en _ fun vs dd G1 H1 g1 d1 nd => by
    rw [List.append_nil]
    exact ⟨G1, ds, dd, kvs, d, vs, rfl, g1.sub, d1, nd, hr, fun v G2 H2 g2 d2 => q v G2 H2 (g1.trans g2) d2⟩
end
section
variable {W : Wd}
theorem nv_startR {G H : Hp} {N : List Str} {vs : List V} {ds : List PyData} {dd : Addr} {kvs : List (PyData × PyData)} (s : Same G H) (h : DtAll W.K G vs ds) (nd : ND W G H dd kvs) :
    Nv W G H (L2.start N (vs ++ [.ref dd])) (ds.map Slot.im ++ .dr kvs :: List.replicate (N.length - (ds.length + 1)) Slot.un) := by
  have hl := h.length
  have at1 : ∀ {i : Nat} {t : Slot}, (ds.map Slot.im ++ .dr kvs :: List.replicate (N.length - (ds.length + 1)) Slot.un)[i]? = some t → t = .un ∨ (∃ d, ds[i]? = some d ∧ t = .im d) ∨ (i = ds.length ∧ t = .dr kvs) := fun {i t} q => by
    by_cases hi : i < ds.length
    · rw [List.getElem?_append_left (by simpa using hi), List.getElem?_map] at q
      obtain ⟨d, h1, h2⟩ := Option.map_eq_some_iff.mp q
      exact .inr (.inl ⟨d, h1, h2.symm⟩)
    · rw [List.getElem?_append_right (by simpa using hi), List.length_map] at q
      by_cases e : i = ds.length
      · subst e
        rw [Nat.sub_self] at q
        exact .inr (.inr ⟨rfl, (Option.some.inj q).symm⟩)
      · obtain ⟨m, em⟩ : ∃ m, i - ds.length = m + 1 := ⟨i - ds.length - 1, by omega⟩
        rw [em, List.getElem?_cons_succ, List.getElem?_replicate] at q
        split at q
        · cases q; exact .inl rfl
        · cases q
  have st1 : ∀ {i : Nat} {v : V}, vs[i]? = some v → (L2.start N (vs ++ [.ref dd]))[i]? = some (some v) := fun {i v} q => by
    have hi := (List.getElem?_eq_some_iff.mp q).1
    unfold L2.start
    rw [List.getElem?_append_left (by rw [List.length_map, List.length_append]; exact Nat.lt_of_lt_of_le hi (Nat.le_add_right _ _)), List.getElem?_map, List.getElem?_append_left hi, q]
    rfl
  refine ⟨s, by unfold L2.start; simp [hl], fun i t q n => ?_, fun i j t u l hij q1 q2 p1 p2 => ?_⟩
  · rcases at1 q with e | ⟨d, e, rfl⟩ | ⟨rfl, rfl⟩
    · exact absurd e n
    · obtain ⟨v, h1, h2⟩ := h.at e
      exact ⟨v, st1 h1, h2⟩
    · refine ⟨.ref dd, ?_, dd, rfl, nd⟩
      unfold L2.start
      rw [List.getElem?_append_left (by simp [hl]), List.getElem?_map, List.getElem?_append_right (by rw [hl]; exact Nat.le_refl _), hl, Nat.sub_self]
      rfl
  · rcases at1 q1 with e | ⟨d, e, rfl⟩ | ⟨rfl, rfl⟩
    · subst e; cases p1
    · cases p1
    · rcases at1 q2 with e | ⟨d, e, rfl⟩ | ⟨e, rfl⟩
      · subst e; cases p2
      · cases p2
      · exact absurd e.symm hij
theorem own_startR {σ : L2.St} {ds : List PyData} {kvs : List (PyData × PyData)} {n : Nat} {l : Addr} : ¬ Own σ (ds.map Slot.im ++ .dr kvs :: List.replicate n Slot.un) l := by
  rintro ⟨i, s, h1, h2, _⟩
  have hm := List.mem_of_getElem? h1
  rcases List.mem_append.mp hm with q | q
  · obtain ⟨d, _, rfl⟩ := List.mem_map.mp q
    cases h2
  · rcases List.mem_cons.mp q with rfl | q
    · cases h2
    · obtain ⟨_, rfl⟩ := List.mem_replicate.mp q
      cases h2
theorem ok_defR {nm qual : Str} {st : Stmt} {f : Addr} {fd : FuncData} {N ps : List Str} {k : Nat} {rel : List PyData → List (PyData × PyData) → PyData → Prop} (F : Fun W.K nm qual st f fd) (S : FnScope N ps (defScope st)) (hm : W.mg nm = some (.ref f)) (bi : Binds W.K fd ps [])
    (len : ∀ ds kvs d, rel ds kvs d → ds.length + 1 = ps.length)
    (body : ∀ ds kvs d, rel ds kvs d → ∀ (cdv : Value) (A : Around) (outer : List PySem.Env) (s : Shared) (H : Hp) (E : XK), Fm W k (bodyF W N qual (defScope st) f cdv A outer s H E) →
      BX W (bodyF W N qual (defScope st) f cdv A outer s H E) (defBody st) (ds.map Slot.im ++ .dr kvs :: List.replicate (N.length - (ds.length + 1)) Slot.un) (.rt d)) : Def W (k + 1) nm ps (spR W rel) := by
  refine ⟨f, fd, F.ok S (fun vs H Q E h => ?_) fun cdv A outer s H vs Q E hr h => ?_, hm, F.kp, bi⟩
  · obtain ⟨G, ds, dd, kvs, d, vs0, rfl, _, h1, _, h2, _⟩ := h
    rw [List.length_append, h1.length]
    exact len ds kvs d h2
  · obtain ⟨G, ds, dd, kvs, d, vs0, rfl, h0, h1, nd, h2, q⟩ := h
    refine ⟨TSsw (bodyF W N qual (defScope st) f cdv A outer s H E) (defBody st), pss_w (F := bodyF W N qual (defScope st) f cdv A outer s H E) (), ?_⟩
    exact body ds kvs d h2 cdv A outer s H E (fm_body S hr) _ G H (nv_startR h0 h1 nd) _ fun v G' H' m dv => q v G' H' (m.gr fun l ol => (own_startR ol).elim) dv
end

/-! ### the law's own argument: a list that may be read only -/
section
variable {ι : Type} {W : Wd} {F : ι → Cx} {k : Nat} {Γ : SC} {e tg : Expr} {es : List Expr} {d : PyData} {ds : List PyData} {pos p : Pos} {ns : List Int}
theorem Nv.sq {G H : Hp} {σ : L2.St} (x : Nv W G H σ Γ) {i : Nat} (h : Γ[i]? = some (.sq ns)) : ∃ a, σ[i]? = some (some (.ref a)) ∧ SqL W.K G a (ns.map V.int) := by
  obtain ⟨v, h1, a, rfl, h2⟩ := x.at' i _ h (by intro z; cases z)
  exact ⟨a, h1, h2⟩
theorem runs_sq {G : Hp} {l : Addr} (h : SqL W.K G l (ns.map V.int)) : Runs W (Itl W.K l) G (ns.map .int) := fun G1 H1 e s => by
  have hq := sql_up s (sql_up e h)
  have t : DtAll W.K G1 (ns.map V.int) (ns.map .int) := dpAll_ints ns
  refine ⟨fun i y hy => ?_, _, hq, by rw [t.length]; exact Nat.le_refl _⟩
  obtain ⟨v, h1, h2⟩ := t.at hy
  refine ⟨⟨_, v, hq, h1⟩, fun x H' yl => ?_⟩
  obtain ⟨rfl, f⟩ := yl
  have ex : x = v := Option.some.inj ((f _ hq).symm.trans h1)
  subst ex
  exact ⟨G1, Gr.refl s, h2⟩
theorem ix_sq {nm : Str} (i : Nat) (fm : Fm W k F) (hi : ∀ j, (F j).N[i]? = some nm) (hv : ∀ j, Vis (F j).env.scope nm) (h : Γ[i]? = some (.sq ns)) (hd : (nm == ("__debug__" : Str)) = false := by decide) (hcd : (nm == ("__classdict__" : Str)) = false := by decide) : IX W F tg (.Name nm p) Γ (ns.map .int) :=
  .of (t := iList W.K (tVar i)) (fun j => by rw [← fm.K j]; exact pi_list (pe_var (hi j) (hv j) hd hcd)) fun σ G H en R q => by
    obtain ⟨a, h1, h2⟩ := en.sq h
    exact ⟨.ref a, h1, a, rfl, ⟨_, sql_up en.sub h2⟩, q _ G H en.refl (runs_sq h2)⟩
def spS (W : Wd) (rel : List Int → List PyData → PyData → Prop) : Sp := fun vs H Q _ => ∃ G a ns vs0 ds d, vs = .ref a :: vs0 ∧ Same G H ∧ SqL W.K G a (ns.map V.int) ∧ DtAll W.K G vs0 ds ∧ rel ns ds d ∧ ∀ v G' H', Gr G H G' H' → Dt W.K G' v d → Q v H'
theorem ex_callS {nm ny : Str} {ps : List Str} {rel : List Int → List PyData → PyData → Prop} {j : Nat} {py : Pos} (i : Nat) (fm : Fm W k F) (D : Def W j nm ps (spS W rel)) (hj : j ≤ k) (hg : ∀ i, Gl (F i) nm) (hi : ∀ j, (F j).N[i]? = some ny) (hv : ∀ j, Vis (F j).env.scope ny) (h : Γ[i]? = some (.sq ns)) (ha : EA W F es Γ ds) (hr : rel ns ds d) (hdb : (nm == ("__debug__" : Str)) = false := by decide)
    (he : ∀ i, starEach (.Name ny py :: es) (F i).env = (false, eval (.Name ny py) (F i).env) :: starEach es (F i).env := by exact fun _ => rfl) (hpl : ∀ i, (backTo pos (starEach es (F i).env)).any (·.1) = false := by exact fun _ => rfl)
    (hd : (ny == ("__debug__" : Str)) = false := by decide) (hcd : (ny == ("__classdict__" : Str)) = false := by decide) : EX W F (.Call (.Name nm p) (.Name ny py :: es) [] pos) Γ d :=
  .of (t := tCall (spS W rel) [] E0 (tCons (tVar i) (TAw F es))) (fun i => by
    obtain ⟨f, fd, G, hm, kp, bi⟩ := D.ex
    refine pe_call (X := F i) (CX := CX0) (k := j) (f := f) (fd := fd) (ps := ps) (ds := []) ?_ ((fm.room i).mono hj) (hg i) (by rw [fm.mg i]; exact hm) (by rw [fm.K i]; exact kp) (by rw [fm.K i]; exact bi) .nil pass0 (pa_cons (pe_var (hi i) (hv i) hd hcd) (pa_w i) (he i)) hdb (he i) (hpl i)
    rw [fm.prog i, fm.w i, fm.K i, fm.mg i, fm.base i]
    exact G) fun σ G H en Q q => by
    obtain ⟨a, h1, h2⟩ := en.sq h
    refine ⟨.ref a, h1, ha σ G H en _ fun vs G1 H1 g1 d1 => ?_⟩
    show spS W rel ((.ref a :: vs) ++ []) H1 Q E0
    rw [List.append_nil]
    exact ⟨G1, a, ns, vs, ds, d, rfl, g1.sub, sql_up g1.up h2, d1, hr, fun v G2 H2 g2 d2 => q v G2 H2 (g1.trans g2) d2⟩
theorem nv_startS {G H : Hp} {N : List Str} {a : Addr} {vs : List V} (s : Same G H) (hq : SqL W.K G a (ns.map V.int)) (h : DtAll W.K G vs ds) : Nv W G H (L2.start N (.ref a :: vs)) (.sq ns :: (ds.map Slot.im ++ List.replicate (N.length - (ds.length + 1)) Slot.un)) := by
  have hl := h.length
  have at1 : ∀ {i : Nat} {t : Slot}, (.sq ns :: (ds.map Slot.im ++ List.replicate (N.length - (ds.length + 1)) Slot.un))[i]? = some t → t = .un ∨ (∃ j d, i = j + 1 ∧ ds[j]? = some d ∧ t = .im d) ∨ (i = 0 ∧ t = .sq ns) := fun {i t} q => by
    cases i with
    | zero => exact .inr (.inr ⟨rfl, (Option.some.inj q).symm⟩)
    | succ i =>
      rw [List.getElem?_cons_succ] at q
      by_cases hi : i < ds.length
      · rw [List.getElem?_append_left (by simpa using hi), List.getElem?_map] at q
        obtain ⟨d, h1, h2⟩ := Option.map_eq_some_iff.mp q
        exact .inr (.inl ⟨i, d, rfl, h1, h2.symm⟩)
      · rw [List.getElem?_append_right (by simpa using hi), List.getElem?_replicate] at q
        split at q
        · cases q; exact .inl rfl
        · cases q
  have np : ∀ {i : Nat} {t : Slot}, (.sq ns :: (ds.map Slot.im ++ List.replicate (N.length - (ds.length + 1)) Slot.un))[i]? = some t → t.ptr = true → False := fun q p => by
    rcases at1 q with e | ⟨_, d, _, _, rfl⟩ | ⟨_, rfl⟩
    · subst e; cases p
    · cases p
    · cases p
  refine ⟨s, by unfold L2.start; simp [hl], fun i t q n => ?_, fun i j t u l hij q1 q2 p1 p2 => (np q1 p1).elim⟩
  rcases at1 q with e | ⟨j, d, rfl, e, rfl⟩ | ⟨rfl, rfl⟩
  · exact absurd e n
  · obtain ⟨v, h1, h2⟩ := h.at e
    refine ⟨v, ?_, h2⟩
    unfold L2.start
    have hj := (List.getElem?_eq_some_iff.mp h1).1
    rw [List.getElem?_append_left (by rw [List.length_map, List.length_cons]; omega), List.getElem?_map, List.getElem?_cons_succ, h1]
    rfl
  · exact ⟨.ref a, rfl, a, rfl, hq⟩
theorem own_startS {σ : L2.St} {n : Nat} {l : Addr} : ¬ Own σ (.sq ns :: (ds.map Slot.im ++ List.replicate n Slot.un)) l := by
  rintro ⟨i, s, h1, h2, _⟩
  rcases List.mem_cons.mp (List.mem_of_getElem? h1) with rfl | hm
  · cases h2
  · rcases List.mem_append.mp hm with q | q
    · obtain ⟨d, _, rfl⟩ := List.mem_map.mp q
      cases h2
    · obtain ⟨_, rfl⟩ := List.mem_replicate.mp q
      cases h2
theorem fn_defS {nm qual : Str} {st : Stmt} {f : Addr} {fd : FuncData} {N ps : List Str} {k : Nat} {rel : List Int → List PyData → PyData → Prop} (F : Fun W.K nm qual st f fd) (S : FnScope N ps (defScope st)) 
    (len : ∀ ns ds d, rel ns ds d → ds.length + 1 = ps.length)
    (body : ∀ ns ds d, rel ns ds d → ∀ (cdv : Value) (A : Around) (outer : List PySem.Env) (s : Shared) (H : Hp) (E : XK), Fm W k (bodyF W N qual (defScope st) f cdv A outer s H E) →
      BX W (bodyF W N qual (defScope st) f cdv A outer s H E) (defBody st) (.sq ns :: (ds.map Slot.im ++ List.replicate (N.length - (ds.length + 1)) Slot.un)) (.rt d)) : FnOk W.P W.w W.K W.mg W.base CX0 (k + 1) f fd ps (spS W rel) := by
  refine F.ok S (fun vs H Q E h => ?_) fun cdv A outer s H vs Q E hr h => ?_
  · obtain ⟨G, a, ns, vs0, ds, d, rfl, _, _, h1, h2, _⟩ := h
    rw [List.length_cons, h1.length]
    exact len ns ds d h2
  · obtain ⟨G, a, ns, vs0, ds, d, rfl, h0, hq, h1, h2, q⟩ := h
    refine ⟨TSsw (bodyF W N qual (defScope st) f cdv A outer s H E) (defBody st), pss_w (F := bodyF W N qual (defScope st) f cdv A outer s H E) (), ?_⟩
    exact body ns ds d h2 cdv A outer s H E (fm_body S hr) _ G H (nv_startS h0 hq h1) _ fun v G' H' m dv => q v G' H' (m.gr fun l ol => (own_startS ol).elim) dv
theorem ok_defS {nm qual : Str} {st : Stmt} {f : Addr} {fd : FuncData} {N ps : List Str} {k : Nat} {rel : List Int → List PyData → PyData → Prop} (F : Fun W.K nm qual st f fd) (S : FnScope N ps (defScope st)) (hm : W.mg nm = some (.ref f)) (bi : Binds W.K fd ps [])
    (len : ∀ ns ds d, rel ns ds d → ds.length + 1 = ps.length)
    (body : ∀ ns ds d, rel ns ds d → ∀ (cdv : Value) (A : Around) (outer : List PySem.Env) (s : Shared) (H : Hp) (E : XK), Fm W k (bodyF W N qual (defScope st) f cdv A outer s H E) →
      BX W (bodyF W N qual (defScope st) f cdv A outer s H E) (defBody st) (.sq ns :: (ds.map Slot.im ++ List.replicate (N.length - (ds.length + 1)) Slot.un)) (.rt d)) : Def W (k + 1) nm ps (spS W rel) :=
  ⟨f, fd, fn_defS F S len body, hm, F.kp, bi⟩
end

/-! ### a new dict as the result -/
section
variable {ι : Type} {W : Wd} {F : ι → Cx} {k : Nat} {Γ : SC} {e tg : Expr} {es : List Expr} {d : PyData} {ds : List PyData} {pos p : Pos} {kvs : List (PyData × PyData)}
theorem sx_retK {nm : Str} (i : Nat) (hN : ∀ j, (F j).N[i]? = some nm) (hv : ∀ j, Vis (F j).env.scope nm) (h : Γ[i]? = some (.dk kvs)) (hd : (nm == ("__debug__" : Str)) = false := by decide) (hcd : (nm == ("__classdict__" : Str)) = false := by decide) :
    SX W F (.Return (some (.Name nm p)) pos) Γ (.rk kvs) := .of (t := tRet (tVar i)) (fun j => ps_ret (pe_var (hN j) (hv j) hd hcd)) fun σ G H en D q => by
  obtain ⟨dd, e1, e2, nd⟩ := en.dk h
  exact ⟨.ref dd, e1, q dd G H (.inl ⟨i, _, h, rfl, e1⟩) (Mr.refl en.sub) e2 nd⟩
def spK (W : Wd) (rel : List PyData → List (PyData × PyData) → Prop) : Sp := fun vs H Q _ => ∃ G ds kvs, Same G H ∧ DtAll W.K G vs ds ∧ rel ds kvs ∧ ∀ l G' H', H l = none → Gr G H G' H' → G' l = none → ND W G' H' l kvs → Q (.ref l) H'
theorem ok_defK {nm qual : Str} {st : Stmt} {f : Addr} {fd : FuncData} {N ps : List Str} {k : Nat} {rel : List PyData → List (PyData × PyData) → Prop} (F : Fun W.K nm qual st f fd) (S : FnScope N ps (defScope st)) (hm : W.mg nm = some (.ref f)) (bi : Binds W.K fd ps [])
    (len : ∀ ds d, rel ds d → ds.length = ps.length)
    (body : ∀ ds d, rel ds d → ∀ (cdv : Value) (A : Around) (outer : List PySem.Env) (s : Shared) (H : Hp) (E : XK), Fm W k (bodyF W N qual (defScope st) f cdv A outer s H E) →
      BX W (bodyF W N qual (defScope st) f cdv A outer s H E) (defBody st) (ds.map Slot.im ++ List.replicate (N.length - ds.length) Slot.un) (.rk d)) : Def W (k + 1) nm ps (spK W rel) := by
  refine ⟨f, fd, F.ok S (fun vs H Q E h => ?_) fun cdv A outer s H vs Q E hr h => ?_, hm, F.kp, bi⟩
  · obtain ⟨G, ds, d, _, h1, h2, _⟩ := h
    rw [h1.length]
    exact len ds d h2
  · obtain ⟨G, ds, d, h0, h1, h2, q⟩ := h
    refine ⟨TSsw (bodyF W N qual (defScope st) f cdv A outer s H E) (defBody st), pss_w (F := bodyF W N qual (defScope st) f cdv A outer s H E) (), ?_⟩
    exact body ds d h2 cdv A outer s H E (fm_body S hr) _ G H (nv_start h0 h1) _ fun l G' H' h3 m h4 h5 => q l G' H' (h3.elim (fun o => (own_start (N := N) o).elim) id) (m.gr fun l ol => (own_start (N := N) ol).elim) h4 h5
/-- name = a call that gives a new dict -/
theorem sx_callK {nm ny : Str} {ps : List Str} {rel : List PyData → List (PyData × PyData) → Prop} {j : Nat} {p2 spos : Pos} (i : Nat) (fm : Fm W k F) (D : Def W j nm ps (spK W rel)) (hj : j ≤ k) (hg : ∀ i, Gl (F i) nm) (hi : ∀ j, (F j).N[i]? = some ny) (hx : ∀ j, Loc (F j).env.scope ny) (hf : ∀ j, (F j).fn ny = true ∨ (F j).env.scope.names.lookup ny = some .local)
    (ha : EA W F (e :: es) Γ ds) (hr : rel ds kvs) (hdb : (nm == ("__debug__" : Str)) = false := by decide)
    (he : ∀ i, starEach (e :: es) (F i).env = (false, eval e (F i).env) :: starEach es (F i).env := by exact fun _ => rfl) (hpl : ∀ i, (backTo pos (starEach es (F i).env)).any (·.1) = false := by exact fun _ => rfl)
    (hs : ∀ j, swapsWith (.Call (.Name nm p) (e :: es) [] pos) (some (.Name ny p2)) spos.line (F j).env = pure false := by exact fun _ => rfl) :
    SX W F (.Assign [.Name ny p2] (.Call (.Name nm p) (e :: es) [] pos) spos) Γ (.nx (Γ.set i (.dk kvs))) :=
  .of (fun j => ps_set (fm.nd j) (hi j) (hx j) (pe_def fm D hj hg hdb he hpl j) (hs j) (hf j)) fun σ G H en D q => ha σ G H en _ fun vs G1 H1 g1 d1 => by
    rw [List.append_nil]
    refine ⟨G1, ds, kvs, g1.sub, d1, hr, fun l G2 H2 h0 g2 h1 nd => ?_⟩
    have h00 : H l = none := g1.same.free h0
    refine q _ G2 H2 (g1.trans g2).mr (en.setNewD i h00 (g1.trans g2) h1 nd) fun l' ol => ?_
    rcases own_set ol with r | ⟨_, r⟩
    · exact .inl r
    · cases r; exact .inr h00
end
end TW
/-! Part 13: the rules with their small facts found. -/
namespace TW
open PySem PySem.Spec PyProof.Rows L2
def blkB (N : List Str) (sc scope : Scope) (own : List (Str × Nat)) : Bool :=
  decide (scope.kind = .function) && (scope.names.all (fun y => decide (scope.names.lookup y.1 = some y.2)) && (own.all (fun p => decide (N[p.2]? = some p.1)) &&
    (scope.names.all (fun y => !decide (y.2 = .free) || (decide (sc.names.lookup y.1 = some .cell) || decide (sc.names.lookup y.1 = some .free))) &&
      scope.names.all (fun y => !(decide (y.2 = .local) || decide (y.2 = .cell)) || (own.any (fun p => decide (p.1 = y.1)) || !N.any (fun n => decide (n = y.1)))))))
theorem blk_ok {N : List Str} {sc scope : Scope} {own : List (Str × Nat)} (h : blkB N sc scope own = true) : BlkOk N sc scope own := by
  unfold blkB at h
  simp only [Bool.and_eq_true, List.all_eq_true, decide_eq_true_eq, Bool.or_eq_true, Bool.not_eq_true', decide_eq_false_iff_not] at h
  obtain ⟨h1, h2, h3, h4, h5⟩ := h
  refine ⟨h1, h2, h3, fun y hy e => ?_, fun y hy e => ?_⟩
  · rcases h4 y hy with q | q
    · exact absurd e q
    · exact q
  · rcases h5 y hy with q | q | q
    · rw [Bool.or_eq_false_iff] at q
      rcases e with e | e
      · rw [decide_eq_true e] at q; exact absurd q.1 (by decide)
      · rw [decide_eq_true e] at q; exact absurd q.2 (by decide)
    · rw [List.any_eq_true] at q
      obtain ⟨p, hp, e2⟩ := q
      exact .inl (List.mem_map.mpr ⟨p, hp, of_decide_eq_true e2⟩)
    · refine .inr fun hm => ?_
      rw [List.any_eq_false] at q
      exact q _ hm (decide_eq_true rfl)
/-- the built-in names that are free -/
structure Gs (W : Wd) : Prop where
  len : W.mg "len" = none
  zip : W.mg "zip" = none
  tuple : W.mg "tuple" = none
  int : W.mg "int" = none
  sum : W.mg "sum" = none
  all : W.mg "all" = none
  any : W.mg "any" = none
  max : W.mg "max" = none
  min : W.mg "min" = none
  sorted : W.mg "sorted" = none
  reversed : W.mg "reversed" = none
  range : W.mg "range" = none
  list : W.mg "list" = none
  isinstance : W.mg "isinstance" = none
  bool : W.mg "bool" = none
  far : ∃ a, W.mg "FAR" = some (.ref a) ∧ ∀ G, Dt W.K G (.ref a) (.tuple [.int 0])
  sea : ∃ a, W.mg "AT_SEA" = some (.ref a) ∧ ∀ G, Dt W.K G (.ref a) (.tuple [.int 1])
  gone : ∃ a, W.mg "GONE" = some (.ref a) ∧ ∀ G, Dt W.K G (.ref a) (.tuple [.int 3])
  stays : ∃ t, W.mg "STAYS" = some (.int (-1) t)
  out : ∃ t, W.mg "OUT" = some (.int (-2) t)
section
variable {ι : Type} {W : Wd} {F : ι → Cx} {k : Nat} {Γ : SC} {a b e e2 e3 tg iter elt : Expr} {es elts : List Expr} {sts : List Stmt} {x y z d : PyData} {ds ys xs zs : List PyData} {pos p tpos : Pos} {n m : Int} {c : Bool} {kk : Nat}
theorem v {nm : Str} (i : Nat) (h : Γ[i]? = some (.im d)) (hN : ∀ j, (F j).N[i]? = some nm := by exact fun _ => rfl) (hv : ∀ j, Vis (F j).env.scope nm := by first | exact fun _ => .inl rfl | exact fun _ => .inr (.inl rfl) | exact fun _ => .inr (.inr rfl))
    (hd : (nm == ("__debug__" : Str)) = false := by decide) (hcd : (nm == ("__classdict__" : Str)) = false := by decide) : EX W F (.Name nm pos) Γ d := ex_var i hN hv h hd hcd
theorem k0 {j : Nat} : EX W F (.Constant (.int n) j pos) Γ (.int n) := ex_int
theorem c_len (fm : Fm W k F) (g : Gs W) (h : EX W F e Γ (.list ds)) (hg : ∀ j, Gl (F j) "len" := by exact fun _ => rfl) (he : ∀ j, starEach [e] (F j).env = (false, eval e (F j).env) :: starEach [] (F j).env := by exact fun _ => rfl) : EX W F (.Call (.Name "len" p) [e] [] pos) Γ (.int (ds.length : Int)) :=
  ex_callB fm (cd_len fm) hg g.len boot_len (ea_cons h ea_nil he) (by decide) (by decide) he
theorem c_lenT (fm : Fm W k F) (g : Gs W) (h : EX W F e Γ (.tuple ds)) (hg : ∀ j, Gl (F j) "len" := by exact fun _ => rfl) (he : ∀ j, starEach [e] (F j).env = (false, eval e (F j).env) :: starEach [] (F j).env := by exact fun _ => rfl) : EX W F (.Call (.Name "len" p) [e] [] pos) Γ (.int (ds.length : Int)) :=
  ex_callB fm (cd_lenT fm) hg g.len boot_len (ea_cons h ea_nil he) (by decide) (by decide) he
theorem bt_sum : bootBuiltins "sum" = some (.builtin "sum") := by decide +kernel
theorem bt_any : bootBuiltins "any" = some (.builtin "any") := by decide +kernel
theorem bt_all : bootBuiltins "all" = some (.builtin "all") := by decide +kernel
theorem bt_max : bootBuiltins "max" = some (.builtin "max") := by decide +kernel
theorem bt_min : bootBuiltins "min" = some (.builtin "min") := by decide +kernel
theorem bt_sorted : bootBuiltins "sorted" = some (.builtin "sorted") := by decide +kernel
theorem bt_int : bootBuiltins "int" = some (.type "int") := by decide +kernel
theorem bt_tuple : bootBuiltins "tuple" = some (.type "tuple") := by decide +kernel
theorem bt_bool : bootBuiltins "bool" = some (.type "bool") := by decide +kernel
theorem c_sum (fm : Fm W k F) (g : Gs W) {ns : List Int} (h : EX W F e Γ (.list (ns.map .int))) (hg : ∀ j, Gl (F j) "sum" := by exact fun _ => rfl) (he : ∀ j, starEach [e] (F j).env = (false, eval e (F j).env) :: starEach [] (F j).env := by exact fun _ => rfl) : EX W F (.Call (.Name "sum" p) [e] [] pos) Γ (.int ns.sum) :=
  ex_callB fm (cd_sum fm) hg g.sum bt_sum (ea_cons h ea_nil he) (by decide) (by decide) he
theorem c_any (fm : Fm W k F) (g : Gs W) {bs : List Bool} (h : EX W F e Γ (.list (bs.map .bool))) (hg : ∀ j, Gl (F j) "any" := by exact fun _ => rfl) (he : ∀ j, starEach [e] (F j).env = (false, eval e (F j).env) :: starEach [] (F j).env := by exact fun _ => rfl) : EX W F (.Call (.Name "any" p) [e] [] pos) Γ (.bool (bs.any id)) :=
  ex_callB fm (cd_any fm) hg g.any bt_any (ea_cons h ea_nil he) (by decide) (by decide) he
theorem c_all (fm : Fm W k F) (g : Gs W) {bs : List Bool} (h : EX W F e Γ (.list (bs.map .bool))) (hg : ∀ j, Gl (F j) "all" := by exact fun _ => rfl) (he : ∀ j, starEach [e] (F j).env = (false, eval e (F j).env) :: starEach [] (F j).env := by exact fun _ => rfl) : EX W F (.Call (.Name "all" p) [e] [] pos) Γ (.bool (bs.all id)) :=
  ex_callB fm (cd_all fm) hg g.all bt_all (ea_cons h ea_nil he) (by decide) (by decide) he
theorem c_int (fm : Fm W k F) (g : Gs W) (h : EX W F e Γ (.int n)) (hg : ∀ j, Gl (F j) "int" := by exact fun _ => rfl) (he : ∀ j, starEach [e] (F j).env = (false, eval e (F j).env) :: starEach [] (F j).env := by exact fun _ => rfl) : EX W F (.Call (.Name "int" p) [e] [] pos) Γ (.int n) :=
  ex_callTy fm cd_int hg g.int bt_int (ea_cons h ea_nil he) (by decide) (by decide) he
theorem c_max (fm : Fm W k F) (g : Gs W) (h : EX W F a Γ (.int n)) (h2 : EX W F b Γ (.int m)) (hg : ∀ j, Gl (F j) "max" := by exact fun _ => rfl) (he : ∀ j, starEach [a, b] (F j).env = (false, eval a (F j).env) :: starEach [b] (F j).env := by exact fun _ => rfl)
    (he2 : ∀ j, starEach [b] (F j).env = (false, eval b (F j).env) :: starEach [] (F j).env := by exact fun _ => rfl) (hpl : ∀ j, (backTo pos (starEach [b] (F j).env)).any (·.1) = false := by exact fun _ => rfl) : EX W F (.Call (.Name "max" p) [a, b] [] pos) Γ (.int (max n m)) :=
  ex_callB fm (cd_max2 fm) hg g.max bt_max (ea_cons h (ea_cons h2 ea_nil he2) he) (by decide) (by decide) he hpl
theorem c_min (fm : Fm W k F) (g : Gs W) (h : EX W F a Γ (.int n)) (h2 : EX W F b Γ (.int m)) (hg : ∀ j, Gl (F j) "min" := by exact fun _ => rfl) (he : ∀ j, starEach [a, b] (F j).env = (false, eval a (F j).env) :: starEach [b] (F j).env := by exact fun _ => rfl)
    (he2 : ∀ j, starEach [b] (F j).env = (false, eval b (F j).env) :: starEach [] (F j).env := by exact fun _ => rfl) (hpl : ∀ j, (backTo pos (starEach [b] (F j).env)).any (·.1) = false := by exact fun _ => rfl) : EX W F (.Call (.Name "min" p) [a, b] [] pos) Γ (.int (min n m)) :=
  ex_callB fm (cd_min2 fm) hg g.min bt_min (ea_cons h (ea_cons h2 ea_nil he2) he) (by decide) (by decide) he hpl
theorem c_tupL (fm : Fm W k F) (g : Gs W) (h : EX W F e Γ (.list ds)) (hg : ∀ j, Gl (F j) "tuple" := by exact fun _ => rfl) (he : ∀ j, starEach [e] (F j).env = (false, eval e (F j).env) :: starEach [] (F j).env := by exact fun _ => rfl) : EX W F (.Call (.Name "tuple" p) [e] [] pos) Γ (.tuple ds) :=
  ex_callTy fm (cd_tupL fm) hg g.tuple bt_tuple (ea_cons h ea_nil he) (by decide) (by decide) he
theorem c_tupT (fm : Fm W k F) (g : Gs W) (h : EX W F e Γ (.tuple ds)) (hg : ∀ j, Gl (F j) "tuple" := by exact fun _ => rfl) (he : ∀ j, starEach [e] (F j).env = (false, eval e (F j).env) :: starEach [] (F j).env := by exact fun _ => rfl) : EX W F (.Call (.Name "tuple" p) [e] [] pos) Γ (.tuple ds) :=
  ex_callTy fm (cd_tupT fm) hg g.tuple bt_tuple (ea_cons h ea_nil he) (by decide) (by decide) he
theorem c_sortI (fm : Fm W k F) (g : Gs W) {ns ns' : List Int} (hl : ns.length < 64) (hp : ns'.Perm ns) (hs : ns'.Pairwise (· ≤ ·)) (h : EX W F e Γ (.list (ns.map .int))) (hg : ∀ j, Gl (F j) "sorted" := by exact fun _ => rfl) (he : ∀ j, starEach [e] (F j).env = (false, eval e (F j).env) :: starEach [] (F j).env := by exact fun _ => rfl) : EX W F (.Call (.Name "sorted" p) [e] [] pos) Γ (.list (ns'.map .int)) :=
  ex_callB fm (cd_sortI fm hl hp hs) hg g.sorted bt_sorted (ea_cons h ea_nil he) (by decide) (by decide) he
theorem c_sortD (fm : Fm W k F) (g : Gs W) {β : Type} {enc : β → PyData} {bs : List β} (so : SrtOk enc bs) (h : EX W F e Γ (.list (bs.map enc))) (hg : ∀ j, Gl (F j) "sorted" := by exact fun _ => rfl) (he : ∀ j, starEach [e] (F j).env = (false, eval e (F j).env) :: starEach [] (F j).env := by exact fun _ => rfl) : EX W F (.Call (.Name "sorted" p) [e] [] pos) Γ (.list ((bs.mergeSort (PySem.W.dataLe false enc)).map enc)) :=
  ex_callB fm (cd_sortD fm so) hg g.sorted bt_sorted (ea_cons h ea_nil he) (by decide) (by decide) he
theorem g_far (fm : Fm W k F) (g : Gs W) (hg : ∀ j, Gl (F j) "FAR" := by exact fun _ => rfl) : EX W F (.Name "FAR" pos) Γ (.tuple [.int 0]) := let ⟨_, h1, h2⟩ := g.far; ex_globR fm hg h1 h2
theorem g_sea (fm : Fm W k F) (g : Gs W) (hg : ∀ j, Gl (F j) "AT_SEA" := by exact fun _ => rfl) : EX W F (.Name "AT_SEA" pos) Γ (.tuple [.int 1]) := let ⟨_, h1, h2⟩ := g.sea; ex_globR fm hg h1 h2
theorem g_gone (fm : Fm W k F) (g : Gs W) (hg : ∀ j, Gl (F j) "GONE" := by exact fun _ => rfl) : EX W F (.Name "GONE" pos) Γ (.tuple [.int 3]) := let ⟨_, h1, h2⟩ := g.gone; ex_globR fm hg h1 h2
theorem g_stays (fm : Fm W k F) (g : Gs W) (hg : ∀ j, Gl (F j) "STAYS" := by exact fun _ => rfl) : EX W F (.Name "STAYS" pos) Γ (.int (-1)) := let ⟨_, h1⟩ := g.stays; ex_globI fm hg h1
theorem g_out (fm : Fm W k F) (g : Gs W) (hg : ∀ j, Gl (F j) "OUT" := by exact fun _ => rfl) : EX W F (.Name "OUT" pos) Γ (.int (-2)) := let ⟨_, h1⟩ := g.out; ex_globI fm hg h1
/-! subscripts -/
theorem ixT (fm : Fm W k F) (ha : EX W F a Γ (.tuple ds)) (hb : EX W F b Γ (.int n)) (h : atI ds n = some d) (hs : PlainIx b := by exact fun _ _ => rfl) : EX W F (.Subscript a b pos) Γ d := ex_ix (id_tup fm h) ha hb hs
theorem ixL (fm : Fm W k F) (ha : EX W F a Γ (.list ds)) (hb : EX W F b Γ (.int n)) (h : atI ds n = some d) (hs : PlainIx b := by exact fun _ _ => rfl) : EX W F (.Subscript a b pos) Γ d := ex_ix (id_lst fm h) ha hb hs
/-! targets -/
theorem pn {nm : Str} {is : List Nat} (i : Nat) (fm : Fm W k F) (h : PGsX F es is) (hi : ∀ j, (F j).N[i]? = some nm := by exact fun _ => rfl) (hx : ∀ j, Loc (F j).env.scope nm := by first | exact fun _ => .inl rfl | exact fun _ => .inr rfl)
    (hf : ∀ j, (F j).fn nm = true ∨ (F j).env.scope.names.lookup nm = some .local := by first | exact fun _ => .inr rfl | exact fun _ => .inl rfl)
    (hs : ∀ j, (assignEach (.Name nm pos :: es) (F j).env).map (·.2) = assign (.Name nm pos) (F j).env :: (assignEach es (F j).env).map (·.2) := by exact fun _ => rfl) : PGsX F (.Name nm pos :: es) (i :: is) := pgsx_cons i fm hi hx hf h hs
theorem p1 {nm : Str} (i : Nat) (fm : Fm W k F) (hi : ∀ j, (F j).N[i]? = some nm := by exact fun _ => rfl) (hx : ∀ j, Loc (F j).env.scope nm := by first | exact fun _ => .inl rfl | exact fun _ => .inr rfl)
    (hf : ∀ j, (F j).fn nm = true ∨ (F j).env.scope.names.lookup nm = some .local := by first | exact fun _ => .inr rfl | exact fun _ => .inl rfl) : PGX W F (.Name nm pos) (.nm i) := pgx_nm i fm hi hx hf
/-! list comprehensions -/
theorem lc {α : Type} {scope : Scope} (own : List (Str × Nat)) (T : Tg) (xs : List α) (enc : α → PyData) (f : α → PyData) (fm : Fm W k F)
    (hi : IX W F tg iter Γ (xs.map enc)) (hg : PGX W (blkF F scope) tg T) (he : ∀ u ∈ xs, EX W (blkF F scope) elt (T.put (wipeC Γ (own.map (·.2))) (enc u)) (f u)) (hz : xs.length ≤ sizeLine) (ok : ∀ j, BlkOk (F j).N (F j).env.scope scope own := by exact fun _ => blk_ok rfl) (hT : ∀ i ∈ T.is, i ∈ own.map (·.2) := by decide) (fits : ∀ u ∈ xs, T.fits (enc u) := by intro _ _; first | trivial | rfl)
    (hs : ∀ j x, foldedSetIterable iter (F j).env x = pure x := by exact fun _ _ => rfl) : EL W F (.ListComp elt [⟨tg, iter, [], 0⟩] scope pos) Γ (xs.map f) :=
  (el_lc own T xs enc (fun _ => true) f fm hi ok hg hT fits (fun _ _ => .nil) (fun u hu _ => he u hu) hz (by decide) hs).is (by rw [List.filter_eq_self.mpr fun _ _ => rfl])
theorem lcF {α : Type} {scope : Scope} {t : Expr} (own : List (Str × Nat)) (T : Tg) (xs : List α) (enc : α → PyData) (pr : α → Bool) (f : α → PyData) (fm : Fm W k F)
    (hi : IX W F tg iter Γ (xs.map enc)) (hg : PGX W (blkF F scope) tg T) (ht : ∀ u ∈ xs, EB W (blkF F scope) t (T.put (wipeC Γ (own.map (·.2))) (enc u)) (pr u)) (he : ∀ u ∈ xs, pr u = true → EX W (blkF F scope) elt (T.put (wipeC Γ (own.map (·.2))) (enc u)) (f u)) (hz : xs.length ≤ sizeLine) (ok : ∀ j, BlkOk (F j).N (F j).env.scope scope own := by exact fun _ => blk_ok rfl) (hT : ∀ i ∈ T.is, i ∈ own.map (·.2) := by decide) (fits : ∀ u ∈ xs, T.fits (enc u) := by intro _ _; first | trivial | rfl)
    (hs : ∀ j x, foldedSetIterable iter (F j).env x = pure x := by exact fun _ _ => rfl) : EL W F (.ListComp elt [⟨tg, iter, [t], 0⟩] scope pos) Γ ((xs.filter pr).map f) :=
  el_lc own T xs enc pr f fm hi ok hg hT fits (fun u hu => .one (ht u hu)) he hz (Nat.le_refl 1) hs
theorem sw_local {scope : Scope} {cs : List Comprehension} {py : Pos} {nm : Str} {l : Nat} (hk : ∀ j, (F j).env.scope.kind = .function) (hy : ∀ j, (F j).env.scope.names.lookup nm = some .local) (hl : (py.line == pos.line) = true) (ha : (scope.names.any fun (n, k) => n == nm && (k == .local || k == .cell)) = false) : ∀ j, swapsWith (.ListComp elt cs scope pos) (some (.Name nm py)) l (F j).env = pure true :=
  fun j => sw_true (hk j) (hy j) hl ha
/-- name = [..], a local name: kept to be changed -/
theorem set_lc {α : Type} {scope : Scope} {nm : Str} {py spos : Pos} (i : Nat) (own : List (Str × Nat)) (T : Tg) (xs : List α) (enc : α → PyData) (f : α → PyData) (fm : Fm W k F)
    (hi : IX W F tg iter Γ (xs.map enc)) (hg : PGX W (blkF F scope) tg T) (he : ∀ u ∈ xs, EX W (blkF F scope) elt (T.put (wipeC Γ (own.map (·.2))) (enc u)) (f u)) (hz : xs.length ≤ sizeLine)
    (hN : ∀ j, (F j).N[i]? = some nm := by exact fun _ => rfl) (hl : ∀ j, (F j).env.scope.names.lookup nm = some .local := by exact fun _ => rfl)
    (hsw : ∀ j, swapsWith (.ListComp elt [⟨tg, iter, [], 0⟩] scope pos) (some (.Name nm py)) spos.line (F j).env = pure true := by exact sw_local (fun _ => rfl) (fun _ => rfl) rfl (by decide +kernel))
    (ok : ∀ j, BlkOk (F j).N (F j).env.scope scope own := by exact fun _ => blk_ok rfl) (hT : ∀ i ∈ T.is, i ∈ own.map (·.2) := by decide) (fits : ∀ u ∈ xs, T.fits (enc u) := by intro _ _; first | trivial | rfl)
    (hs : ∀ j x, foldedSetIterable iter (F j).env x = pure x := by exact fun _ _ => rfl) : SX W F (.Assign [.Name nm py] (.ListComp elt [⟨tg, iter, [], 0⟩] scope pos) spos) Γ (.nx (Γ.set i (.mu (xs.map f)))) :=
  (sx_setLc i own T xs enc (fun _ => true) f fm hN hl hsw hi ok hg hT fits (fun _ _ => .nil) (fun u hu _ => he u hu) hz (by decide) hs).is (by rw [List.filter_eq_self.mpr fun _ _ => rfl])
theorem set_lcF {α : Type} {scope : Scope} {nm : Str} {t : Expr} {py spos : Pos} (i : Nat) (own : List (Str × Nat)) (T : Tg) (xs : List α) (enc : α → PyData) (pr : α → Bool) (f : α → PyData) (fm : Fm W k F)
    (hi : IX W F tg iter Γ (xs.map enc)) (hg : PGX W (blkF F scope) tg T) (ht : ∀ u ∈ xs, EB W (blkF F scope) t (T.put (wipeC Γ (own.map (·.2))) (enc u)) (pr u)) (he : ∀ u ∈ xs, pr u = true → EX W (blkF F scope) elt (T.put (wipeC Γ (own.map (·.2))) (enc u)) (f u)) (hz : xs.length ≤ sizeLine)
    (hN : ∀ j, (F j).N[i]? = some nm := by exact fun _ => rfl) (hl : ∀ j, (F j).env.scope.names.lookup nm = some .local := by exact fun _ => rfl)
    (hsw : ∀ j, swapsWith (.ListComp elt [⟨tg, iter, [t], 0⟩] scope pos) (some (.Name nm py)) spos.line (F j).env = pure true := by exact sw_local (fun _ => rfl) (fun _ => rfl) rfl (by decide +kernel))
    (ok : ∀ j, BlkOk (F j).N (F j).env.scope scope own := by exact fun _ => blk_ok rfl) (hT : ∀ i ∈ T.is, i ∈ own.map (·.2) := by decide) (fits : ∀ u ∈ xs, T.fits (enc u) := by intro _ _; first | trivial | rfl)
    (hs : ∀ j x, foldedSetIterable iter (F j).env x = pure x := by exact fun _ _ => rfl) : SX W F (.Assign [.Name nm py] (.ListComp elt [⟨tg, iter, [t], 0⟩] scope pos) spos) Γ (.nx (Γ.set i (.mu ((xs.filter pr).map f)))) :=
  sx_setLc i own T xs enc pr f fm hN hl hsw hi ok hg hT fits (fun u hu => .one (ht u hu)) he hz (Nat.le_refl 1) hs
/-! statements -/
theorem put {nm : Str} (i : Nat) (fm : Fm W k F) (h : EX W F e Γ d) (hi : ∀ j, (F j).N[i]? = some nm := by exact fun _ => rfl) (hx : ∀ j, Loc (F j).env.scope nm := by first | exact fun _ => .inl rfl | exact fun _ => .inr rfl)
    (hf : ∀ j, (F j).fn nm = true ∨ (F j).env.scope.names.lookup nm = some .local := by first | exact fun _ => .inr rfl | exact fun _ => .inl rfl)
    (hs : ∀ j, swapsWith e (some (.Name nm p)) pos.line (F j).env = pure false := by exact fun _ => rfl) : SX W F (.Assign [.Name nm p] e pos) Γ (.nx (Γ.set i (.im d))) := sx_set i fm hi hx hf h hs
theorem putL {nm : Str} (i : Nat) (fm : Fm W k F) (h : EL W F e Γ ds) (hi : ∀ j, (F j).N[i]? = some nm := by exact fun _ => rfl) (hx : ∀ j, Loc (F j).env.scope nm := by first | exact fun _ => .inl rfl | exact fun _ => .inr rfl)
    (hf : ∀ j, (F j).fn nm = true ∨ (F j).env.scope.names.lookup nm = some .local := by first | exact fun _ => .inr rfl | exact fun _ => .inl rfl)
    (hs : ∀ j, swapsWith e (some (.Name nm p)) pos.line (F j).env = pure false := by exact fun _ => rfl) : SX W F (.Assign [.Name nm p] e pos) Γ (.nx (Γ.set i (.mu ds))) := sx_new i fm hi hx hf h hs
theorem aug {nm : Str} {op : Operator} (i : Nat) (fm : Fm W k F) (hv : Γ[i]? = some (.im x)) (h : EX W F e Γ y) (ho : OpD W F (inplaceOp op) x y d) (hi : ∀ j, (F j).N[i]? = some nm := by exact fun _ => rfl) (hx : ∀ j, Loc (F j).env.scope nm := by first | exact fun _ => .inl rfl | exact fun _ => .inr rfl)
    (hf : ∀ j, (F j).fn nm = true ∨ (F j).env.scope.names.lookup nm = some .local := by first | exact fun _ => .inr rfl | exact fun _ => .inl rfl) : SX W F (.AugAssign (.Name nm p) op e pos) Γ (.nx (Γ.set i (.im d))) := sx_aug i fm hi hx hf hv h ho
theorem ext {nm : Str} (i : Nat) (fm : Fm W k F) (hv : Γ[i]? = some (.mu ds)) (h : EX W F e Γ (.list ys)) (hz : ds.length + ys.length ≤ sizeLine) (hi : ∀ j, (F j).N[i]? = some nm := by exact fun _ => rfl) (hx : ∀ j, Loc (F j).env.scope nm := by first | exact fun _ => .inl rfl | exact fun _ => .inr rfl)
    (hf : ∀ j, (F j).fn nm = true ∨ (F j).env.scope.names.lookup nm = some .local := by first | exact fun _ => .inr rfl | exact fun _ => .inl rfl) : SX W F (.AugAssign (.Name nm p) .Add e pos) Γ (.nx (Γ.set i (.mu (ds ++ ys)))) := sx_ext i fm hi hx hf hv h hz
theorem app {nm : Str} {ap cp : Pos} (i : Nat) (fm : Fm W k F) (h : Γ[i]? = some (.mu ds)) (he : EX W F e Γ d) (hz : ds.length < sizeLine) (hi : ∀ j, (F j).N[i]? = some nm := by exact fun _ => rfl) (hv : ∀ j, Vis (F j).env.scope nm := by first | exact fun _ => .inl rfl | exact fun _ => .inr (.inl rfl))
    (hbase : ∀ j, attributeBase (.Name nm p) "append" (F j).env (eval (.Name nm p) (F j).env) = eval (.Name nm p) (F j).env := by exact fun _ => rfl)
    (hfew : ∀ j, ((backTo cp (starEach [e] (F j).env)).all (fun x => !x.1) && (backToKw cp (keywordEach [] (F j).env)).all (fun x => x.1.isSome) && decide ([e].length + ([] : List Keyword).length + (if ([] : List Keyword).isEmpty then 0 else 1) < 30)) = true := by exact fun _ => rfl)
    (hline : (ap.endLine == cp.line) = true := by rfl) (hs : ∀ j, starEach [e] (F j).env = (false, eval e (F j).env) :: starEach [] (F j).env := by exact fun _ => rfl) (hplain : ∀ j, (backTo cp (starEach [] (F j).env)).any (·.1) = false := by exact fun _ => rfl)
    (hsw : ∀ j, swapsWith (.Call (.Attribute (.Name nm p) "append" ap) [e] [] cp) none pos.line (F j).env = pure false := by exact fun _ => rfl)
    (hd : (nm == ("__debug__" : Str)) = false := by decide) (hcd : (nm == ("__classdict__" : Str)) = false := by decide) :
    SX W F (.Expr (.Call (.Attribute (.Name nm p) "append" ap) [e] [] cp) pos) Γ (.nx (Γ.set i (.mu (ds ++ [d])))) := sx_append i fm hi hv h hz he hbase hfew hline hs hplain hsw hd hcd
/-- a loop over pairs of a list: what is known at the end -/
theorem sx_forL {T : Tg} {α : Type} (as : List α) (enc : α → PyData) (Γs : Nat → SC) (h0 : Γ = Γs 0) (hi : IX W F tg iter Γ (as.map enc)) (fm : Fm W k F) (hg : PGX W F tg T) (body : ∀ t u, as[t]? = some u → BX W F sts (T.put (Γs t) (enc u)) (.nx (Γs (t + 1)))) (fits : ∀ u ∈ as, T.fits (enc u) := by intro _ _; first | trivial | rfl)
    (hs : ∀ j x, foldedSetIterable iter (F j).env x = pure x := by exact fun _ _ => rfl) : SX W F (.For tg iter sts [] pos) Γ (.nx (Γs as.length)) :=
  (sx_for Γs h0 hi fm hg (fun y hy => by obtain ⟨u, hu, rfl⟩ := List.mem_map.mp hy; exact fits u hu) (fun t y hy => by
    rw [List.getElem?_map] at hy
    obtain ⟨u, hu, rfl⟩ := Option.map_eq_some_iff.mp hy
    exact body t u hu) hs).is (by rw [List.length_map])
theorem sx_forLR {T : Tg} {α : Type} (as : List α) (enc : α → PyData) (Γs : Nat → SC) (t0 : Nat) (u0 : α) (hu0 : as[t0]? = some u0) (h0 : Γ = Γs 0) (hi : IX W F tg iter Γ (as.map enc)) (fm : Fm W k F) (hg : PGX W F tg T) (body : ∀ t u, t < t0 → as[t]? = some u → BX W F sts (T.put (Γs t) (enc u)) (.nx (Γs (t + 1))))
    (last : BX W F sts (T.put (Γs t0) (enc u0)) (.rt d)) (fits : ∀ u ∈ as, T.fits (enc u) := by intro _ _; first | trivial | rfl) (hs : ∀ j x, foldedSetIterable iter (F j).env x = pure x := by exact fun _ _ => rfl) : SX W F (.For tg iter sts [] pos) Γ (.rt d) :=
  sx_forR Γs h0 hi fm hg (fun y hy => by obtain ⟨u, hu, rfl⟩ := List.mem_map.mp hy; exact fits u hu) t0 (enc u0) (by rw [List.getElem?_map, hu0]; rfl) (fun t y lt hy => by
    rw [List.getElem?_map] at hy
    obtain ⟨u, hu, rfl⟩ := Option.map_eq_some_iff.mp hy
    exact body t u lt hu) last hs
/-! zips, ranges -/
theorem zip3D_map {α β γ : Type} {f : α → PyData} {g : β → PyData} {h : γ → PyData} {as : List α} {bs : List β} {cs : List γ} : zip3D (as.map f) (bs.map g) (cs.map h) = (as.zip (bs.zip cs)).map fun r => .tuple [f r.1, g r.2.1, h r.2.2] := by
  unfold zip3D
  rw [List.zip_map, List.zip_map, List.map_map]
  rfl
theorem zip2D_map {α β : Type} {f : α → PyData} {g : β → PyData} {as : List α} {bs : List β} : zip2D (as.map f) (bs.map g) = (as.zip bs).map fun r => .tuple [f r.1, g r.2] := by
  unfold zip2D
  rw [List.zip_map, List.map_map]
  rfl
theorem iz2 {α β : Type} {f : α → PyData} {h : β → PyData} {as : List α} {bs : List β} (ka kb : Bool) (fm : Fm W k F) (g : Gs W) (h1 : EX W F e Γ (seqD ka (as.map f))) (h2 : EX W F e2 Γ (seqD kb (bs.map h))) (hg : ∀ j, Gl (F j) "zip" := by exact fun _ => rfl)
    (hs : ∀ j, starEach [e, e2] (F j).env = (false, eval e (F j).env) :: starEach [e2] (F j).env := by exact fun _ => rfl) (hs2 : ∀ j, starEach [e2] (F j).env = (false, eval e2 (F j).env) :: starEach [] (F j).env := by exact fun _ => rfl) (hpl : ∀ j, (backTo pos (starEach [e2] (F j).env)).any (·.1) = false := by exact fun _ => rfl) :
    IX W F (.Tuple elts kk tpos) (.Call (.Name "zip" p) [e, e2] [] pos) Γ ((as.zip bs).map fun r => .tuple [f r.1, h r.2]) := (ix_zip2 ka kb fm hg g.zip h1 h2 hs hs2 hpl).is zip2D_map
theorem iz3 {α β γ : Type} {f : α → PyData} {h : β → PyData} {l : γ → PyData} {as : List α} {bs : List β} {cs : List γ} (ka kb kc : Bool) (fm : Fm W k F) (g : Gs W) (h1 : EX W F e Γ (seqD ka (as.map f))) (h2 : EX W F e2 Γ (seqD kb (bs.map h))) (h3 : EX W F e3 Γ (seqD kc (cs.map l))) (hg : ∀ j, Gl (F j) "zip" := by exact fun _ => rfl)
    (hs : ∀ j, starEach [e, e2, e3] (F j).env = (false, eval e (F j).env) :: starEach [e2, e3] (F j).env := by exact fun _ => rfl) (hs2 : ∀ j, starEach [e2, e3] (F j).env = (false, eval e2 (F j).env) :: starEach [e3] (F j).env := by exact fun _ => rfl)
    (hs3 : ∀ j, starEach [e3] (F j).env = (false, eval e3 (F j).env) :: starEach [] (F j).env := by exact fun _ => rfl) (hpl : ∀ j, (backTo pos (starEach [e2, e3] (F j).env)).any (·.1) = false := by exact fun _ => rfl) :
    IX W F (.Tuple elts kk tpos) (.Call (.Name "zip" p) [e, e2, e3] [] pos) Γ ((as.zip (bs.zip cs)).map fun r => .tuple [f r.1, h r.2.1, l r.2.2]) := (ix_zip3 ka kb kc fm hg g.zip h1 h2 h3 hs hs2 hs3 hpl).is zip3D_map
theorem irg (fm : Fm W k F) (g : Gs W) (ha : EX W F a Γ (.int m)) (h0 : -(2 ^ 62) ≤ m := by omega) (h1 : m < 2 ^ 62 := by omega) (hg : ∀ j, Gl (F j) "range" := by exact fun _ => rfl)
    (hs : ∀ j, starEach [a] (F j).env = [(false, eval a (F j).env)] := by exact fun _ => rfl) : IX W F tg (.Call (.Name "range" p) [a] [] pos) Γ ((List.range m.toNat).map fun (t : Nat) => .int t) := (ix_rng1 fm hg g.range ha h0 h1 hs).is (by unfold rngD; simp)
/-! own defs -/
theorem call {nm : Str} {ps : List Str} {rel : List PyData → PyData → Prop} {j : Nat} (fm : Fm W k F) (D : Def W j nm ps (spD W rel)) (ha : EA W F (e :: es) Γ ds) (hr : rel ds d) (hj : j ≤ k := by decide) (hg : ∀ i, Gl (F i) nm := by exact fun _ => rfl) (hdb : (nm == ("__debug__" : Str)) = false := by decide)
    (he : ∀ i, starEach (e :: es) (F i).env = (false, eval e (F i).env) :: starEach es (F i).env := by exact fun _ => rfl) (hpl : ∀ i, (backTo pos (starEach es (F i).env)).any (·.1) = false := by exact fun _ => rfl) : EX W F (.Call (.Name nm p) (e :: es) [] pos) Γ d := ex_call fm D hj hg ha hr hdb he hpl
theorem callL {nm : Str} {ps : List Str} {rel : List PyData → List PyData → Prop} {j : Nat} (fm : Fm W k F) (D : Def W j nm ps (spL W rel)) (ha : EA W F (e :: es) Γ ds) (hr : rel ds ys) (hj : j ≤ k := by decide) (hg : ∀ i, Gl (F i) nm := by exact fun _ => rfl) (hdb : (nm == ("__debug__" : Str)) = false := by decide)
    (he : ∀ i, starEach (e :: es) (F i).env = (false, eval e (F i).env) :: starEach es (F i).env := by exact fun _ => rfl) (hpl : ∀ i, (backTo pos (starEach es (F i).env)).any (·.1) = false := by exact fun _ => rfl) : EL W F (.Call (.Name nm p) (e :: es) [] pos) Γ ys := el_call fm D hj hg ha hr hdb he hpl
end
end TW
/-! What the program computes, in plain words. -/
namespace TW
open PySem
structure Harb where
  depths : List Int
  berths : List Int
  tugs : Int
  pilots : Int
  last : Int
structure Ship where
  ready : Int
  len : Int
  dr : Int
  stay : Int
  need : Int
  sea : Int
  lie : Int
inductive Place where
  | far
  | sea
  | gone
  | lies (b l : Int)
  deriving DecidableEq
abbrev State := Int × List Place
def eHarb (h : Harb) : PyData := .tuple [.list (h.depths.map .int), .list (h.berths.map .int), .int h.tugs, .int h.pilots, .int h.last]
def eShip (s : Ship) : PyData := .tuple [.int s.ready, .int s.len, .int s.dr, .int s.stay, .int s.need, .int s.sea, .int s.lie]
def ePlace : Place → PyData
  | .far => .tuple [.int 0]
  | .sea => .tuple [.int 1]
  | .gone => .tuple [.int 3]
  | .lies b l => .tuple [.int 2, .int b, .int l]
def ePlaces (ps : List Place) : PyData := .tuple (ps.map ePlace)
def eState (s : State) : PyData := .tuple [.int s.1, .tuple (s.2.map ePlace)]
def eMove (m : List Int) : PyData := .tuple (m.map .int)
def eShips (l : List Ship) : PyData := .list (l.map eShip)
def eInts (l : List Int) : PyData := .list (l.map .int)
def eOpt : Option Int → PyData
  | none => .none
  | some i => .int i

def depthAt (h : Harb) (t : Int) : Int := h.depths.getD (t % h.depths.length).toNat 0
def prod {α : Type} (rows : List (List α)) : List (List α) := rows.foldl (fun found row => found.flatMap fun one => row.map fun e => one ++ [e]) [[]]
def comeRow (hour : Int) (s : Ship) (span : Int) (p : Place) : List Place :=
  if p ≠ .far ∨ hour < s.ready then [p] else if hour = s.ready + span then [.sea] else [.far, .sea]
def come (ships : List Ship) (spans : List Int) (hour : Int) (places : List Place) : List (List Place) := prod ((ships.zip (spans.zip places)).map fun r => comeRow hour r.1 r.2.1 r.2.2)
def firstStates (ships : List Ship) (spans : List Int) : List State := (come ships spans 0 (List.replicate ships.length .far)).map fun ps => (0, ps)
def choices (h : Harb) (hour : Int) (s : Ship) (p : Place) : List Int :=
  if depthAt h hour < s.dr then [-1] else match p with
    | .sea => -1 :: ((List.range h.berths.length).filter fun b => decide (s.len ≤ h.berths.getD b 0)).map fun (b : Nat) => (b : Int)
    | .lies _ l => if l = 0 then [-2, -1] else [-1]
    | _ => [-1]
def lieB : Place → Bool
  | .lies _ _ => true
  | _ => false
def berthOf : Place → Int
  | .lies b _ => b
  | _ => 0
def takenOf (ps : List Place) : List Int := (ps.filter lieB).map berthOf
def freeOk : List Int → List Int → Bool
  | _, [] => true
  | tk, t :: ts => if 0 ≤ t then (if t ∈ tk then false else freeOk (tk ++ [t]) ts) else freeOk tk ts
def movingOf (ships : List Ship) (move : List Int) : List Int := ((ships.zip move).filter fun r => !decide (r.2 = -1)).map fun r => r.1.need
def goes (h : Harb) (ships : List Ship) (places : List Place) (move : List Int) : Bool :=
  freeOk (takenOf places) move && (decide ((movingOf ships move).sum ≤ h.tugs) && decide (((movingOf ships move).length : Int) ≤ h.pilots))
def choiceRows (h : Harb) (ships : List Ship) (s : State) : List (List Int) := (ships.zip s.2).map fun r => choices h s.1 r.1 r.2
def movesOf (h : Harb) (ships : List Ship) (s : State) : List (List Int) := (prod (choiceRows h ships s)).filter (goes h ships s.2)
def readyOut : Place → Bool
  | .lies _ l => decide (l = 0)
  | _ => false
def costOne (s : Ship) (p : Place) (t : Int) : Int := (if p = .sea ∧ t = -1 then s.sea else 0) + (if readyOut p = true ∧ t = -1 then s.lie else 0)
def costOf (ships : List Ship) (places : List Place) (move : List Int) : Int := ((ships.zip (places.zip move)).map fun r => costOne r.1 r.2.1 r.2.2).sum
def placeBehind (s : Ship) (p : Place) (t : Int) : Place :=
  if t = -2 then .gone else if 0 ≤ t then .lies t s.stay else match p with
    | .lies b l => .lies b (max 0 (l - 1))
    | p => p
def laterOf (ships : List Ship) (places : List Place) (move : List Int) : List Place := (ships.zip (places.zip move)).map fun r => placeBehind r.1 r.2.1 r.2.2
def isEnd (places : List Place) (move : List Int) : Bool := (places.zip move).all fun r => decide (r.1 = .gone) || decide (r.2 = -2)
def statesBehind (h : Harb) (ships : List Ship) (spans : List Int) (s : State) (m : List Int) : List State :=
  if isEnd s.2 m = true ∨ s.1 = h.last then [] else (come ships spans (s.1 + 1) (laterOf ships s.2 m)).map fun ps => (s.1 + 1, ps)
def misses (h : Harb) (s : State) (m : List Int) : Bool := decide (s.1 = h.last) && !isEnd s.2 m
def push1 (wf : List State × List State) (b : State) : List State × List State := if b ∈ wf.2 then wf else (wf.1 ++ [b], wf.2 ++ [b])
def push (bs : List State) (wf : List State × List State) : List State × List State := bs.foldl push1 wf
def kidsOf (h : Harb) (ships : List Ship) (spans : List Int) (s : State) : List State := (movesOf h ships s).flatMap fun m => statesBehind h ships spans s m
def stepW (kids : State → List State) (wf : List State × List State) : List State × List State := match wf.1.getLast? with
  | none => wf
  | some s => push (kids s) (wf.1.dropLast, wf.2)
def iterW (kids : State → List State) (wf : List State × List State) : Nat → List State × List State
  | 0 => wf
  | n + 1 => stepW kids (iterW kids wf n)
def greatest (l : List (Option Int)) : Option Int := if l.any (fun o => o.isNone) = true then none else some ((mostO (l.filterMap id)).getD 0)
def sureBy (h : Harb) (ships : List Ship) (spans : List Int) (s : State) (m : List Int) (val : State → Option Int) : Option Int :=
  if misses h s m = true then none else match greatest ((statesBehind h ships spans s m).map val) with
    | none => none
    | some b => some (costOf ships s.2 m + b)
def bestBy (h : Harb) (ships : List Ship) (spans : List Int) (s : State) (val : State → Option Int) : Option Int := leastO (((movesOf h ships s).map fun m => sureBy h ships spans s m val).filterMap id)
/-- a state's number, n hours seen ahead -/
def valN (h : Harb) (ships : List Ship) (spans : List Int) : Nat → State → Option Int
  | 0, _ => none
  | n + 1, s => bestBy h ships spans s (valN h ships spans n)
def val (h : Harb) (ships : List Ship) (spans : List Int) (s : State) : Option Int := valN h ships spans (h.last - s.1 + 1).toNat s
def sureCost (h : Harb) (ships : List Ship) (spans : List Int) : Option Int := greatest ((firstStates ships spans).map (val h ships spans))
def shipsAt (ships : List Ship) (c : List Int) : List Ship := (ships.zip c).map fun r => { r.1 with ready := r.2 }
/-! the law's own -/
structure Go where
  f : Int
  b : Int
  o : Int
  deriving DecidableEq
def eGo (g : Go) : PyData := .tuple [.int g.f, .int g.b, .int g.o]
def ePlan (p : List Go) : PyData := .list (p.map eGo)
def lawDeep (h : Harb) (s : Ship) : List Int := ((List.range (h.last + 1).toNat).map fun (t : Nat) => (t : Int)).filter fun t => decide (s.dr ≤ depthAt h t)
def goOk (h : Harb) (s : Ship) (g : Go) : Bool := decide (s.ready ≤ g.f) && (decide (g.f + s.stay < g.o) && (decide (s.len ≤ h.berths.getD g.b.toNat 0) && decide (s.need ≤ h.tugs)))
def lawMoves (h : Harb) (s : Ship) : List Go :=
  (lawDeep h s).flatMap fun f => (lawDeep h s).flatMap fun o => ((List.range h.berths.length).map fun (b : Nat) => (⟨f, b, o⟩ : Go)).filter (goOk h s)
def lawApart (x y : Go) : Bool := if x.b ≠ y.b then true else decide (x.o < y.f) || decide (y.o < x.f)
def fitsAt (h : Harb) (ships : List Ship) (p : List Go) (t : Int) : Bool :=
  !(decide (h.pilots < (((ships.zip p).filter fun r => decide (t = r.2.f) || decide (t = r.2.o)).length : Int)) || decide (h.tugs < (((ships.zip p).filter fun r => decide (t = r.2.f) || decide (t = r.2.o)).map fun r => r.1.need).sum))
def lawFits (h : Harb) (ships : List Ship) (p : List Go) : Bool := ((p.map (·.f) ++ p.map (·.o)).mergeSort (fun a b => decide (a ≤ b))).all (fitsAt h ships p)
def planStep (h : Harb) (ships : List Ship) (ps : List (List Go)) (s : Ship) : List (List Go) :=
  ((lawMoves h s).flatMap fun g => (ps.filter fun p => p.all (lawApart g)).map fun p => p ++ [g]).filter (lawFits h ships)
def lawPlans0 (h : Harb) (ships : List Ship) : List (List Go) := ships.foldl (planStep h ships) [[]]
def lawCost (ships : List Ship) (p : List Go) : Int := ((ships.zip p).map fun r => r.1.sea * (r.2.f - r.1.ready) + r.1.lie * (r.2.o - r.2.f - 1 - r.1.stay)).sum
def spanRows (ships : List Ship) (spans : List Int) : List (List Int) := (ships.zip spans).map fun r => (List.range (r.2 + 1).toNat).map fun (t : Nat) => r.1.ready + t
def lawComings (ships : List Ship) (spans : List Int) : List (List Int) := prod (spanRows ships spans)
def lawBest (h : Harb) (ships : List Ship) : Option Int := leastO ((lawPlans0 h ships).map (lawCost ships))
def wider (spans : List Int) (at' : Nat) : List Int := spans.take at' ++ [spans.getD at' 0 + 1] ++ spans.drop (at' + 1)
/-- the worlds that are asked -/
structure Ok (h : Harb) (ships : List Ship) (spans : List Int) : Prop where
  depths : 1 ≤ h.depths.length
  depths2 : h.depths.length ≤ 6
  berths : 1 ≤ h.berths.length
  berths2 : h.berths.length ≤ 2
  last : 0 ≤ h.last
  last2 : h.last ≤ 6
  nships : 1 ≤ ships.length
  nships2 : ships.length ≤ 2
  nspans : spans.length = ships.length
  ready : ∀ s ∈ ships, 0 ≤ s.ready ∧ s.ready ≤ 5
  stay : ∀ s ∈ ships, 1 ≤ s.stay ∧ s.stay ≤ 2
  need : ∀ s ∈ ships, 0 ≤ s.need
  cost : ∀ s ∈ ships, 0 ≤ s.sea ∧ 0 ≤ s.lie
  span : ∀ n ∈ spans, 0 ≤ n ∧ n ≤ 4
end TW
/-! States as keys and as what is sorted; the work list. -/
namespace TW
open PySem PySem.W
theorem ePlace_inj {p q : Place} (h : ePlace p = ePlace q) : p = q := by
  cases p <;> cases q <;> simp_all [ePlace]
theorem map_inj {α β : Type} {f : α → β} (hf : ∀ a b, f a = f b → a = b) : ∀ {l m : List α}, l.map f = m.map f → l = m
  | [], [], _ => rfl
  | [], _ :: _, h => by simp at h
  | _ :: _, [], h => by simp at h
  | a :: l, b :: m, h => by
    simp only [List.map_cons, List.cons.injEq] at h
    rw [hf a b h.1, map_inj hf h.2]
theorem eState_inj {s t : State} (h : eState s = eState t) : s = t := by
  obtain ⟨a, ps⟩ := s
  obtain ⟨b, qs⟩ := t
  simp only [eState, PyData.tuple.injEq, List.cons.injEq, PyData.int.injEq, and_true] at h
  rw [h.1, map_inj (fun _ _ => ePlace_inj) h.2]
theorem key_place (p : Place) : keyable (ePlace p) = true := by cases p <;> rfl
theorem keys_places : ∀ ps : List Place, keyables (ps.map ePlace) = true
  | [] => rfl
  | p :: ps => by
    show (keyable (ePlace p) && keyables (ps.map ePlace)) = true
    rw [key_place, keys_places ps]
    rfl
theorem key_state (s : State) : keyable (eState s) = true := by
  show (true && (keyables (s.2.map ePlace) && true)) = true
  rw [keys_places]
  rfl
theorem depth_place (p : Place) : (toKey (ePlace p)).depth ≤ 1 := by cases p <;> exact Nat.le_of_ble_eq_true rfl
theorem depth_places : ∀ ps : List Place, NestedKey.depthAll (toKeys (ps.map ePlace)) ≤ 1
  | [] => Nat.zero_le _
  | p :: ps => by
    show max (toKey (ePlace p)).depth (NestedKey.depthAll (toKeys (ps.map ePlace))) ≤ 1
    exact Nat.max_le.mpr ⟨depth_place p, depth_places ps⟩
theorem isKey_state (s : State) : isKey (eState s) := by
  refine ⟨key_state s, ?_⟩
  show max 0 (max (NestedKey.depthAll (toKeys (s.2.map ePlace)) + 1) 0) + 1 ≤ 8
  have := depth_places s.2
  omega
theorem depthD_place (p : Place) : (ePlace p).depth ≤ 2 := by cases p <;> exact Nat.le_of_ble_eq_true rfl
theorem depthD_places : ∀ ps : List Place, PyData.depthAll (ps.map ePlace) ≤ 2
  | [] => Nat.zero_le _
  | p :: ps => by
    show max (ePlace p).depth (PyData.depthAll (ps.map ePlace)) ≤ 2
    exact Nat.max_le.mpr ⟨depthD_place p, depthD_places ps⟩
theorem alike_place (p q : Place) : alike (ePlace p) (ePlace q) = true := by cases p <;> cases q <;> rfl
theorem alike_places : ∀ ps qs : List Place, alikeAll (ps.map ePlace) (qs.map ePlace) = true
  | [], _ => rfl
  | _ :: _, [] => rfl
  | p :: ps, q :: qs => by
    show (alike (ePlace p) (ePlace q) && alikeAll (ps.map ePlace) (qs.map ePlace)) = true
    rw [alike_place, alike_places ps qs]
    rfl
theorem alike_state (s t : State) : alike (eState s) (eState t) = true := by
  show (true && (alikeAll (s.2.map ePlace) (t.2.map ePlace) && true)) = true
  rw [alike_places]
  rfl
theorem srt_state {f : List State} (h : f.length ≤ sizeLine) : SrtOk eState f :=
  ⟨AllAlike.of alike_state, Sortable.tuples fun s => ⟨_, _, rfl⟩, h, fun s _ => by
    show max (PyData.depth (.int s.1)) (max (PyData.depthAll (s.2.map ePlace) + 1) 0) + 1 ≤ 50
    have := depthD_places s.2
    have e : PyData.depth (.int s.1) ≤ 1 := Nat.le_of_ble_eq_true rfl
    omega⟩
theorem hour_le {s t : State} (h : dataLe false eState s t = true) : s.1 ≤ t.1 := by
  have h' : dataLt (eState t) (eState s) = false := by
    have e : dataLe false eState s t = !dataLt (eState t) (eState s) := rfl
    rw [e] at h
    simpa using h
  unfold eState at h'
  rw [dataLt_tuple, dataLt_cons (by rfl)] at h'
  by_cases e : t.1 = s.1
  · omega
  · rw [if_neg (by simp [PyData.eqv, e]), dataLt_int] at h'
    have := of_decide_eq_false h'
    omega
theorem sorted_hours (f : List State) : (f.mergeSort (dataLe false eState)).Pairwise fun a b => a.1 ≤ b.1 :=
  (sort_pairwise (sortLe_total _ _ _) f).imp fun h => hour_le h
theorem has_state {f : List State} {s : State} {v : State → PyData} : hasD (f.map fun t => (eState t, v t)) (eState s) = decide (s ∈ f) := by
  unfold hasD
  rw [Bool.eq_iff_iff, List.any_eq_true, decide_eq_true_eq]
  constructor
  · rintro ⟨x, hx, e⟩
    obtain ⟨t, ht, rfl⟩ := List.mem_map.mp hx
    have e2 := eState_inj (toKey_inj _ _ (key_state t) (key_state s) (of_decide_eq_true e))
    exact e2 ▸ ht
  · exact fun h => ⟨(eState s, v s), List.mem_map.mpr ⟨s, h, rfl⟩, decide_eq_true rfl⟩
theorem get_state {s : State} {v : State → PyData} : ∀ {f : List State}, s ∈ f → getDk (f.map fun t => (eState t, v t)) (eState s) = some (v s)
  | t :: f, h => by
    unfold getDk
    rw [List.map_cons, List.find?_cons]
    by_cases e : t = s
    · subst e
      rw [decide_eq_true rfl]
      rfl
    · rw [decide_eq_false (fun z => e (eState_inj (toKey_inj _ _ (key_state t) (key_state s) z)))]
      have hm : s ∈ f := (List.mem_cons.mp h).resolve_left fun z => e z.symm
      exact get_state (v := v) hm
/-! ### the work list -/
theorem push1_sub {wf : List State × List State} {b : State} : (∃ n, (push1 wf b).1 = wf.1 ++ n ∧ (push1 wf b).2 = wf.2 ++ n ∧ (∀ x ∈ n, x = b)) ∧ (wf.2.Nodup → (push1 wf b).2.Nodup) ∧ b ∈ (push1 wf b).2 := by
  unfold push1
  split
  · rename_i h
    exact ⟨⟨[], by simp, by simp, by simp⟩, id, h⟩
  · rename_i h
    refine ⟨⟨[b], rfl, rfl, by simp⟩, fun nd => ?_, by simp⟩
    rw [List.nodup_append]
    refine ⟨nd, by simp, fun x hx y hy => ?_⟩
    have : y = b := by simpa using hy
    subst this
    exact fun e => h (e ▸ hx)
theorem push_sub : ∀ (bs : List State) (wf : List State × List State), (∃ n, (push bs wf).1 = wf.1 ++ n ∧ (push bs wf).2 = wf.2 ++ n ∧ ∀ x ∈ n, x ∈ bs) ∧ (wf.2.Nodup → (push bs wf).2.Nodup) ∧ ∀ b ∈ bs, b ∈ (push bs wf).2
  | [], wf => ⟨⟨[], by simp [push], by simp [push], by simp⟩, id, by simp⟩
  | b :: bs, wf => by
    obtain ⟨⟨n1, a1, a2, a3⟩, a4, a5⟩ := push1_sub (wf := wf) (b := b)
    obtain ⟨⟨n2, b1, b2, b3⟩, b4, b5⟩ := push_sub bs (push1 wf b)
    have e : push (b :: bs) wf = push bs (push1 wf b) := rfl
    rw [e]
    refine ⟨⟨n1 ++ n2, by rw [b1, a1, List.append_assoc], by rw [b2, a2, List.append_assoc], fun x hx => ?_⟩, fun nd => b4 (a4 nd), fun x hx => ?_⟩
    · rcases List.mem_append.mp hx with h | h
      · rw [a3 x h]; exact List.mem_cons_self ..
      · exact List.mem_cons_of_mem _ (b3 x h)
    · rcases List.mem_cons.mp hx with rfl | h
      · rw [b2]; exact List.mem_append_left _ a5
      · exact b5 x h
structure WI (kids : State → List State) (U : List State) (wf : List State × List State) : Prop where
  nd : wf.2.Nodup
  inU : ∀ s ∈ wf.2, s ∈ U
  wait : ∀ s ∈ wf.1, s ∈ wf.2
  done : ∀ s ∈ wf.2, s ∈ wf.1 ∨ ∀ k ∈ kids s, k ∈ wf.2
theorem nodup_len {α : Type} [BEq α] [LawfulBEq α] : ∀ {l U : List α}, l.Nodup → (∀ x ∈ l, x ∈ U) → l.length ≤ U.length
  | [], _, _, _ => Nat.zero_le _
  | x :: l, U, nd, h => by
    rw [List.nodup_cons] at nd
    have hx := h x (List.mem_cons_self ..)
    have := nodup_len (l := l) (U := U.erase x) nd.2 fun y hy => (List.mem_erase_of_ne (fun (e : y = x) => nd.1 (e ▸ hy))).mpr (h y (List.mem_cons_of_mem _ hy))
    rw [List.length_erase_of_mem hx] at this
    have hp := List.length_pos_of_mem hx
    rw [List.length_cons]
    omega
section
variable {kids : State → List State} {U : List State} {wf : List State × List State}
theorem WI.step (I : WI kids U wf) (hk : ∀ s ∈ U, ∀ k ∈ kids s, k ∈ U) : WI kids U (stepW kids wf) ∧ (wf.1 ≠ [] → 2 * (U.length - (stepW kids wf).2.length) + (stepW kids wf).1.length < 2 * (U.length - wf.2.length) + wf.1.length) ∧ (∀ s ∈ wf.2, s ∈ (stepW kids wf).2) := by
  unfold stepW
  cases hl : wf.1.getLast? with
  | none => exact ⟨I, fun h => absurd (List.getLast?_eq_none_iff.mp hl) h, fun _ h => h⟩
  | some s =>
    obtain ⟨w', hw⟩ := List.getLast?_eq_some_iff.mp hl
    have hd : wf.1.dropLast = w' := by rw [hw, List.dropLast_concat]
    rw [hd]
    show WI kids U (push (kids s) (w', wf.2)) ∧ _ ∧ _
    obtain ⟨⟨n, a1, a2, a3⟩, a4, a5⟩ := push_sub (kids s) (w', wf.2)
    have sU : s ∈ U := I.inU s (I.wait s (by rw [hw]; simp))
    have I2 : WI kids U (push (kids s) (w', wf.2)) := by
      refine ⟨a4 I.nd, fun x hx => ?_, fun x hx => ?_, fun x hx => ?_⟩
      · rw [a2] at hx
        rcases List.mem_append.mp hx with h | h
        · exact I.inU x h
        · exact hk s sU x (a3 x h)
      · rw [a1] at hx
        rw [a2]
        rcases List.mem_append.mp hx with h | h
        · exact List.mem_append_left _ (I.wait x (by rw [hw]; exact List.mem_append_left _ h))
        · exact List.mem_append_right _ h
      · rw [a2] at hx
        rw [a1]
        rcases List.mem_append.mp hx with h | h
        · rcases I.done x h with q | q
          · rw [hw] at q
            rcases List.mem_append.mp q with q | q
            · exact .inl (List.mem_append_left _ q)
            · have : x = s := by simpa using q
              subst this
              exact .inr a5
          · exact .inr fun k hk' => by rw [a2]; exact List.mem_append_left _ (q k hk')
        · exact .inl (List.mem_append_right _ h)
    refine ⟨I2, fun _ => ?_, fun x hx => by rw [a2]; exact List.mem_append_left _ hx⟩
    have l1 : (push (kids s) (w', wf.2)).2.length ≤ U.length := nodup_len I2.nd I2.inU
    rw [a2, List.length_append] at l1
    rw [a1, a2, List.length_append, List.length_append, hw, List.length_append, List.length_cons, List.length_nil]
    show 2 * (U.length - (wf.2.length + n.length)) + (w'.length + n.length) < _
    have l2 : wf.2.length + n.length ≤ U.length := l1
    omega
theorem WI.all (I : WI kids U wf) (hk : ∀ s ∈ U, ∀ k ∈ kids s, k ∈ U) : ∀ n, WI kids U (iterW kids wf n) ∧ ∀ s ∈ wf.2, s ∈ (iterW kids wf n).2
  | 0 => ⟨I, fun _ h => h⟩
  | n + 1 => by
    obtain ⟨a, b⟩ := WI.all I hk n
    exact ⟨(a.step hk).1, fun s hs => (a.step hk).2.2 s (b s hs)⟩
theorem iterW_succ (wf : List State × List State) : ∀ n, iterW kids wf (n + 1) = iterW kids (stepW kids wf) n
  | 0 => rfl
  | n + 1 => by
    show stepW kids (iterW kids wf (n + 1)) = stepW kids (iterW kids (stepW kids wf) n)
    rw [iterW_succ wf n]
theorem WI.ends (I : WI kids U wf) (hk : ∀ s ∈ U, ∀ k ∈ kids s, k ∈ U) : ∃ N, (iterW kids wf N).1 = [] ∧ (∀ t, t < N → (iterW kids wf t).1 ≠ []) := by
  generalize hm : 2 * (U.length - wf.2.length) + wf.1.length = m
  induction m using Nat.strongRecOn generalizing wf with
  | _ m ih =>
    by_cases h : wf.1 = []
    · exact ⟨0, h, fun t ht => absurd ht (Nat.not_lt_zero _)⟩
    · obtain ⟨I2, lt, _⟩ := I.step hk
      obtain ⟨N, h1, h2⟩ := ih _ (by rw [← hm]; exact lt h) I2 rfl
      refine ⟨N + 1, by rw [iterW_succ]; exact h1, fun t ht => ?_⟩
      cases t with
      | zero => exact h
      | succ t => rw [iterW_succ]; exact h2 t (by omega)
theorem WI.small (I : WI kids U wf) (n : Nat) (hk : ∀ s ∈ U, ∀ k ∈ kids s, k ∈ U) : (iterW kids wf n).2.length ≤ U.length := nodup_len (I.all hk n).1.nd (I.all hk n).1.inU
theorem WI.wsmall (I : WI kids U wf) (hk : ∀ s ∈ U, ∀ k ∈ kids s, k ∈ U) : ∀ n, 2 * (U.length - (iterW kids wf n).2.length) + (iterW kids wf n).1.length ≤ 2 * (U.length - wf.2.length) + wf.1.length
  | 0 => Nat.le_refl _
  | n + 1 => by
    have h := WI.wsmall I hk n
    obtain ⟨_, lt, _⟩ := (I.all hk n).1.step hk
    show 2 * (U.length - (stepW kids (iterW kids wf n)).2.length) + (stepW kids (iterW kids wf n)).1.length ≤ _
    by_cases e : (iterW kids wf n).1 = []
    · have : stepW kids (iterW kids wf n) = iterW kids wf n := by unfold stepW; rw [e]; rfl
      rw [this]
      exact h
    · exact Nat.le_trans (Nat.le_of_lt (lt e)) h
end
end TW
namespace TW
open PySem PySem.Spec PyProof.Rows L2
def topS (i : Nat) : Stmt := PySem.Challenge.pw_tidewaits_k39_whole_what_is_known_ahead.main.body.getD i (.Pass ⟨0, 0, 0, 0⟩)
/-! ### depth_at -/
abbrev sDepth : Stmt := topS 1
abbrev nDepth : List Str := ["harbour", "hour"]
theorem scDepth : FnScope nDepth ["harbour", "hour"] (defScope sDepth) := ⟨rfl, rfl, rfl, by decide +kernel, rfl, by decide +kernel, by decide +kernel⟩
def relDepth (ds : List PyData) (d : PyData) : Prop := ∃ (h : Harb) (t : Int), ds = [eHarb h, .int t] ∧ 1 ≤ h.depths.length ∧ d = .int (depthAt h t)
theorem atI_getD {l : List Int} {i : Int} (h0 : 0 ≤ i) (h1 : i < l.length) : atI (l.map PyData.int) i = some (.int (l.getD i.toNat 0)) := by
  have hi : i.toNat < l.length := by omega
  have e : i = (i.toNat : Int) := by omega
  rw [e, atI_nat (j := i.toNat) (v := .int (l.getD i.toNat 0))]
  · rfl
  · rw [List.getElem?_map, List.getElem?_eq_getElem hi, List.getD_eq_getElem?_getD, List.getElem?_eq_getElem hi]
    rfl
theorem ok_depth {W : Wd} {f : Addr} {fd : FuncData} (F : Fun W.K "depth_at" "depth_at" sDepth f fd) (hm : W.mg "depth_at" = some (.ref f)) (bi : Binds W.K fd ["harbour", "hour"] []) (g : Gs W) : Def W 1 "depth_at" ["harbour", "hour"] (spD W relDepth) := by
  refine ok_def F scDepth hm bi (fun ds d h => ?_) fun ds d h cdv A outer s H E fm => ?_
  · obtain ⟨h, t, rfl, _⟩ := h; rfl
  · obtain ⟨h, t, rfl, h0, rfl⟩ := h
    have hl : (0 : Int) < ((h.depths.map PyData.int).length : Int) := by rw [List.length_map]; omega
    refine bx_one (sx_ret (ixL fm (ixT fm (v 0 rfl) k0 rfl) (ex_op (od_mod hl) (v 1 rfl) (c_len fm g (ixT fm (v 0 rfl) k0 rfl))) ?_))
    have := atI_getD (l := h.depths) (i := t % (h.depths.map PyData.int).length) (Int.emod_nonneg _ (by omega)) (by have := Int.emod_lt_of_pos t hl; rw [List.length_map] at this ⊢; exact this)
    rw [this, List.length_map]
    rfl
/-! ### ships_at -/
abbrev sShipsAt : Stmt := topS 8
abbrev nShipsAt : List Str := ["ships", "coming", "ship", "hour"]
theorem scShipsAt : FnScope nShipsAt ["ships", "coming"] (defScope sShipsAt) := ⟨rfl, rfl, rfl, by decide +kernel, rfl, by decide +kernel, by decide +kernel⟩
def relShipsAt (ds : List PyData) (d : PyData) : Prop := ∃ (l : List Ship) (c : List Int), ds = [eShips l, eMove c] ∧ l.length ≤ 1000 ∧ d = eShips (shipsAt l c)
theorem cut1_7 (s : Ship) : cutD [.int s.ready, .int s.len, .int s.dr, .int s.stay, .int s.need, .int s.sea, .int s.lie] (some 1) none = [.int s.len, .int s.dr, .int s.stay, .int s.need, .int s.sea, .int s.lie] := rfl
theorem sz1000 {n : Nat} (h : n ≤ 1000) : n ≤ sizeLine := Nat.le_trans h (by decide)
theorem ok_shipsAt {W : Wd} {f : Addr} {fd : FuncData} (F : Fun W.K "ships_at" "ships_at" sShipsAt f fd) (hm : W.mg "ships_at" = some (.ref f)) (bi : Binds W.K fd ["ships", "coming"] []) (g : Gs W) : Def W 1 "ships_at" ["ships", "coming"] (spD W relShipsAt) := by
  refine ok_def F scShipsAt hm bi (fun ds d h => ?_) fun ds d h cdv A outer s H E fm => ?_
  · obtain ⟨l, c, rfl, _⟩ := h; rfl
  · obtain ⟨l, c, rfl, hl, rfl⟩ := h
    refine bx_one (sx_ret ((lc [("ship", 2), ("hour", 3)] (.tp [2, 3]) (l.zip c) (fun r => .tuple [eShip r.1, .int r.2]) (fun r => eShip { r.1 with ready := r.2 }) fm
      (iz2 false true fm g (v 0 rfl) (v 1 rfl)) (pgx_tp (fm.blk _) (pn 2 (fm.blk _) (pn 3 (fm.blk _) pgsx_nil)))
      (fun u _ => (ex_op (od_catT (fm.blk _) (Nat.le_of_ble_eq_true rfl)) (ex_tup (ea_cons (v 3 rfl) ea_nil)) (c_tupT (fm.blk _) g (ex_sliceT (fm.blk _) (v 2 rfl) (eo_some k0) eo_none))).is rfl)
      (by rw [List.length_zip]; exact sz1000 (Nat.le_trans (Nat.min_le_left _ _) hl))).ex.is ?_))
    unfold eShips shipsAt
    rw [List.map_map]
    rfl
end TW
namespace TW
open PySem PySem.Spec PyProof.Rows L2
/-! ### product -/
theorem prod_take {α : Type} {rows : List (List α)} {t : Nat} {r : List α} (h : rows[t]? = some r) : prod (rows.take (t + 1)) = (prod (rows.take t)).flatMap fun one => r.map fun e => one ++ [e] := by
  unfold prod
  rw [List.take_add_one, h, List.foldl_append]
  rfl
theorem flat_take {α β : Type} {f : α → List β} {l : List α} {t : Nat} {x : α} (h : l[t]? = some x) : (l.take (t + 1)).flatMap f = (l.take t).flatMap f ++ f x := by
  rw [List.take_add_one, h, List.flatMap_append]
  show _ ++ List.flatMap f [x] = _
  rw [List.flatMap_cons, List.flatMap_nil, List.append_nil]
theorem len_flat {α β : Type} {f : α → List β} {b : Nat} : ∀ {l : List α}, (∀ x ∈ l, (f x).length ≤ b) → (l.flatMap f).length ≤ l.length * b
  | [], _ => by simp
  | x :: l, h => by
    rw [List.flatMap_cons, List.length_append, List.length_cons, Nat.add_mul]
    have h1 := h x (List.mem_cons_self ..)
    have h2 := len_flat (l := l) fun y hy => h y (List.mem_cons_of_mem _ hy)
    omega
theorem prod_len {α : Type} {rows : List (List α)} (h : ∀ r ∈ rows, r.length ≤ 10) : ∀ t : Nat, t ≤ rows.length → (prod (rows.take t)).length ≤ 10 ^ t
  | 0, _ => by simp [prod]
  | t + 1, ht => by
    have hlt : t < rows.length := ht
    rw [prod_take (List.getElem?_eq_getElem hlt), Nat.pow_succ]
    refine Nat.le_trans (len_flat (b := 10) fun x _ => ?_) (Nat.mul_le_mul_right _ (prod_len h t (Nat.le_of_lt hlt)))
    rw [List.length_map]
    exact h _ (List.getElem_mem hlt)
theorem prod_all {α : Type} {rows : List (List α)} (h : ∀ r ∈ rows, r.length ≤ 10) (h2 : rows.length ≤ 3) : (prod rows).length ≤ 1000 := by
  have := prod_len h rows.length (Nat.le_refl _)
  rw [List.take_length] at this
  refine Nat.le_trans this ?_
  have e : (1000 : Nat) = 10 ^ 3 := rfl
  rw [e]
  exact Nat.pow_le_pow_right (by decide) h2
theorem prod_memlen {α : Type} {rows : List (List α)} : ∀ t : Nat, t ≤ rows.length → ∀ one ∈ prod (rows.take t), one.length = t
  | 0, _, one, h => by
    have : one = [] := by simpa [prod] using h
    rw [this]; rfl
  | t + 1, ht, one, h => by
    have hlt : t < rows.length := ht
    rw [prod_take (List.getElem?_eq_getElem hlt), List.mem_flatMap] at h
    obtain ⟨o, ho, h⟩ := h
    obtain ⟨e, he, rfl⟩ := List.mem_map.mp h
    rw [List.length_append, prod_memlen t (Nat.le_of_lt hlt) o ho]
    rfl
def relProduct (ds : List PyData) (d : PyData) : Prop := ∃ rows : List (List PyData), ds = [.list (rows.map .list)] ∧ (∀ r ∈ rows, r.length ≤ 10) ∧ rows.length ≤ 3 ∧ d = .list ((prod rows).map .tuple)
abbrev sProduct : Stmt := topS 9
abbrev nProduct : List Str := ["lists", "found", "row", "longer", "one", "element"]
theorem scProduct : FnScope nProduct ["lists"] (defScope sProduct) := ⟨rfl, rfl, rfl, by decide +kernel, rfl, by decide +kernel, by decide +kernel⟩
theorem ok_product {W : Wd} {f : Addr} {fd : FuncData} (F : Fun W.K "product" "product" sProduct f fd) (hm : W.mg "product" = some (.ref f)) (bi : Binds W.K fd ["lists"] []) (g : Gs W) : Def W 1 "product" ["lists"] (spD W relProduct) := by
  refine ok_def F scProduct hm bi (fun ds d h => ?_) fun ds d h cdv A outer s H E fm => ?_
  · obtain ⟨rows, rfl, _⟩ := h; rfl
  · obtain ⟨rows, rfl, hr, h3, rfl⟩ := h
    have step : ∀ t r, rows[t]? = some r → (prod (rows.take t)).length * 10 ≤ 1000 := fun t r h => by
      have hlt := (List.getElem?_eq_some_iff.mp h).1
      have h1 := prod_len hr t (Nat.le_of_lt hlt)
      have h2 : 10 ^ t ≤ 10 ^ 2 := Nat.pow_le_pow_right (by decide) (by omega)
      omega
    refine bx_cons (put 1 fm (ex_lst (ea_cons (ex_tup ea_nil) ea_nil))) (bx_cons (sx_forL rows .list (fun t => [.im (.list (rows.map .list)), .im (.list ((prod (rows.take t)).map .tuple)), .un, .un, .un, .un]) rfl (ix_lst fm (v 0 rfl)) fm (p1 2 fm) (fun t r hrow => ?_)) (bx_one (sx_ret ((v 1 rfl).is (by rw [List.take_length])))))
    have hrl : r.length ≤ 10 := hr r (List.mem_of_getElem? hrow)
    have hst := step t r hrow
    have e1 : ((prod (rows.take t)).flatMap fun one => r.map fun e => PyData.tuple (one ++ [e])) = (prod (rows.take (t + 1))).map .tuple := by
      rw [prod_take hrow, List.map_flatMap]
      congr 1
      funext one
      rw [List.map_map]
      rfl
    refine bx_wk (Γ2 := [.im (.list (rows.map .list)), .im (.list ((prod (rows.take (t + 1))).map .tuple)), .im (.list r), .im (.list ((prod (rows.take (t + 1))).map .tuple)), .un, .un]) ?_ (.same (.same (.un (.un (.same (.same .nil))))))
    rw [← e1]
    refine bx_cons (putL 3 fm (el_lst ea_nil)) (bx_cons (sx_forL (prod (rows.take t)) .tuple (fun u => [.im (.list (rows.map .list)), .im (.list ((prod (rows.take t)).map .tuple)), .im (.list r), .mu (((prod (rows.take t)).take u).flatMap fun one => r.map fun e => PyData.tuple (one ++ [e])), .un, .un]) rfl (ix_lst fm (v 1 rfl)) fm (p1 4 fm) (fun u one hone => ?_)) ?_)
    · refine bx_wk (Γ2 := [.im (.list (rows.map .list)), .im (.list ((prod (rows.take t)).map .tuple)), .im (.list r), .mu (((prod (rows.take t)).take (u + 1)).flatMap fun one => r.map fun e => PyData.tuple (one ++ [e])), .im (.tuple one), .un]) ?_ (.same (.same (.same (.same (.un (.same .nil))))))
      rw [flat_take hone]
      have hol : one.length ≤ 3 := by
        have hlt := (List.getElem?_eq_some_iff.mp hrow).1
        rw [prod_memlen t (Nat.le_of_lt hlt) one (List.mem_of_getElem? hone)]
        omega
      refine bx_one (ext 3 fm rfl (lc [("element", 5)] (.nm 5) r id (fun e => PyData.tuple (one ++ [e])) fm ((ix_lst fm (v 2 rfl)).is (by rw [List.map_id])) (p1 5 (fm.blk _)) (fun e _ => ex_op (od_catT (fm.blk _) (sz1000 (by rw [List.length_cons, List.length_nil]; omega))) (v 4 rfl) (ex_tup (ea_cons (v 5 rfl) ea_nil))) (sz1000 (by omega))).ex ?_)
      have h1 : (((prod (rows.take t)).take u).flatMap fun one => r.map fun e => PyData.tuple (one ++ [e])).length ≤ ((prod (rows.take t)).take u).length * 10 := len_flat fun x _ => by rw [List.length_map]; exact hrl
      have h2 : ((prod (rows.take t)).take u).length = u := by rw [List.length_take]; have := (List.getElem?_eq_some_iff.mp hone).1; omega
      have h4 := (List.getElem?_eq_some_iff.mp hone).1
      rw [List.length_map]
      exact sz1000 (by omega)
    · rw [List.take_length]
      exact bx_freeze 3 rfl (bx_one (put 1 fm (v 3 rfl)))
end TW
namespace TW
open PySem PySem.Spec PyProof.Rows L2
theorem eqv_far (p : Place) : PyData.eqv (ePlace p) (.tuple [.int 0]) = decide (p = .far) := by cases p <;> rfl
theorem eqv_sea (p : Place) : PyData.eqv (ePlace p) (.tuple [.int 1]) = decide (p = .sea) := by cases p <;> rfl
theorem eqv_gone (p : Place) : PyData.eqv (ePlace p) (.tuple [.int 3]) = decide (p = .gone) := by cases p <;> rfl
theorem shaped_place (p : Place) : SeqAt.shaped (ePlace p) = true := by cases p <;> rfl
theorem map_take1 {α β : Type} {f : α → β} {l : List α} {t : Nat} {x : α} (h : l[t]? = some x) : (l.take (t + 1)).map f = (l.take t).map f ++ [f x] := by
  rw [List.take_add_one, h, List.map_append]
  rfl
theorem prod_map {α β : Type} (f : α → β) (rows : List (List α)) : prod (rows.map (List.map f)) = (prod rows).map (List.map f) := by
  have gen : ∀ (rows : List (List α)) (acc : List (List α)), (rows.map (List.map f)).foldl (fun found row => found.flatMap fun one => row.map fun e => one ++ [e]) (acc.map (List.map f)) = (rows.foldl (fun found row => found.flatMap fun one => row.map fun e => one ++ [e]) acc).map (List.map f) := by
    intro rows
    induction rows with
    | nil => intro acc; rfl
    | cons r rs ih =>
      intro acc
      rw [List.map_cons, List.foldl_cons, List.foldl_cons, ← ih]
      congr 1
      rw [List.flatMap_map, List.map_flatMap]
      congr 1
      funext one
      rw [List.map_map, List.map_map]
      congr 1
      funext e
      simp
  exact gen rows [[]]
/-! ### come -/
def relCome (ds : List PyData) (d : PyData) : Prop := ∃ (kc : Bool) (ships : List Ship) (spans : List Int) (hour : Int) (places : List Place), ds = [eShips ships, eInts spans, .int hour, seqD kc (places.map ePlace)] ∧ ships.length ≤ 3 ∧ d = .list ((come ships spans hour places).map ePlaces)
abbrev sCome : Stmt := topS 10
abbrev nCome : List Str := ["ships", "spans", "hour", "places", "lists", "ship", "span", "place"]
theorem scCome : FnScope nCome ["ships", "spans", "hour", "places"] (defScope sCome) := ⟨rfl, rfl, rfl, by decide +kernel, rfl, by decide +kernel, by decide +kernel⟩
theorem comeRow_len {hour : Int} {s : Ship} {n : Int} {p : Place} : (comeRow hour s n p).length ≤ 2 := by
  unfold comeRow
  split
  · exact Nat.le_succ 1
  · split
    · exact Nat.le_succ 1
    · exact Nat.le_refl 2
theorem ok_come {W : Wd} {f : Addr} {fd : FuncData} (F : Fun W.K "come" "come" sCome f fd) (hm : W.mg "come" = some (.ref f)) (bi : Binds W.K fd ["ships", "spans", "hour", "places"] []) (g : Gs W) (DP : Def W 1 "product" ["lists"] (spD W relProduct)) : Def W 2 "come" ["ships", "spans", "hour", "places"] (spD W relCome) := by
  refine ok_def F scCome hm bi (fun ds d h => ?_) fun ds d h cdv A outer s H E fm => ?_
  · obtain ⟨kc, ships, spans, hour, places, rfl, _⟩ := h; rfl
  · obtain ⟨kc, ships, spans, hour, places, rfl, h3, rfl⟩ := h
    have hzl : (ships.zip (spans.zip places)).length ≤ 3 := by rw [List.length_zip]; exact Nat.le_trans (Nat.min_le_left _ _) h3
    refine bx_cons (putL 4 fm (el_lst ea_nil)) (bx_cons (sx_forL (ships.zip (spans.zip places)) (fun r => .tuple [eShip r.1, .int r.2.1, ePlace r.2.2])
      (fun t => [.im (eShips ships), .im (eInts spans), .im (.int hour), .im (seqD kc (places.map ePlace)), .mu (((ships.zip (spans.zip places)).take t).map fun r => .list ((comeRow hour r.1 r.2.1 r.2.2).map ePlace)), .un, .un, .un]) rfl
      (iz3 false false kc fm g (v 0 rfl) (v 1 rfl) (v 3 rfl)) fm (pgx_tp fm (pn 5 fm (pn 6 fm (pn 7 fm pgsx_nil)))) (fun t r hr => ?_)) (bx_freeze 4 rfl (bx_one (sx_ret ?_))))
    · obtain ⟨sh, n, p⟩ := r
      have ht := (List.getElem?_eq_some_iff.mp hr).1
      have hz : (((ships.zip (spans.zip places)).take t).map fun r => PyData.list ((comeRow hour r.1 r.2.1 r.2.2).map ePlace)).length < sizeLine := by
        rw [List.length_map, List.length_take]
        have : (4 : Nat) ≤ sizeLine := by decide
        omega
      refine bx_wk (Γ2 := [.im (eShips ships), .im (eInts spans), .im (.int hour), .im (seqD kc (places.map ePlace)), .mu (((ships.zip (spans.zip places)).take (t + 1)).map fun r => .list ((comeRow hour r.1 r.2.1 r.2.2).map ePlace)), .im (eShip sh), .im (.int n), .im (ePlace p)]) ?_ (.same (.same (.same (.same (.same (.un (.un (.un .nil))))))))
      rw [map_take1 hr]
      refine bx_one (sx_if (eb_w (ew_or (eb_cmp (od_neD fm (shaped_place p) rfl) (v 7 rfl) (g_far fm g)) (fun _ => ew_or1 (eb_cmp od_lt (v 2 rfl) (ixT fm (v 5 rfl) k0 rfl))))) (fun hc => ?_) (fun hc => ?_))
      · rw [eqv_far] at hc
        have e : comeRow hour sh n p = [p] := by
          unfold comeRow
          rw [if_pos]
          simpa using hc
        simp only [e]
        exact bx_one (app 4 fm rfl (ex_lst (ea_cons (v 7 rfl) ea_nil)) hz)
      · rw [eqv_far] at hc
        have e : comeRow hour sh n p = if hour = sh.ready + n then [.sea] else [.far, .sea] := by
          unfold comeRow
          rw [if_neg]
          simpa using hc
        simp only [e]
        refine bx_one (sx_if (eb_cmp od_eqI (v 2 rfl) (ex_op od_add (ixT fm (v 5 rfl) k0 rfl) (v 6 rfl))) (fun hq => ?_) (fun hq => ?_))
        · rw [if_pos (of_decide_eq_true hq)]
          exact bx_one (app 4 fm rfl (ex_lst (ea_cons (g_sea fm g) ea_nil)) hz)
        · rw [if_neg (of_decide_eq_false hq)]
          exact bx_one (app 4 fm rfl (ex_lst (ea_cons (g_far fm g) (ea_cons (g_sea fm g) ea_nil))) hz)
    · rw [List.take_length]
      refine call fm DP (ea_cons (v 4 rfl) ea_nil) ⟨(ships.zip (spans.zip places)).map fun r => (comeRow hour r.1 r.2.1 r.2.2).map ePlace, by rw [List.map_map]; rfl, fun r hr => ?_, by rw [List.length_map]; exact hzl, ?_⟩
      · obtain ⟨q, _, rfl⟩ := List.mem_map.mp hr
        rw [List.length_map]
        exact Nat.le_trans comeRow_len (by decide)
      · have e : ((ships.zip (spans.zip places)).map fun r => (comeRow hour r.1 r.2.1 r.2.2).map ePlace) = ((ships.zip (spans.zip places)).map fun r => comeRow hour r.1 r.2.1 r.2.2).map (List.map ePlace) := by rw [List.map_map]; rfl
        rw [e, prod_map, List.map_map]
        rfl
theorem come_len {ships : List Ship} {spans : List Int} {hour : Int} {places : List Place} (h3 : ships.length ≤ 3) : (come ships spans hour places).length ≤ 1000 := by
  unfold come
  refine prod_all (fun r hr => ?_) (by rw [List.length_map, List.length_zip]; exact Nat.le_trans (Nat.min_le_left _ _) h3)
  obtain ⟨q, _, rfl⟩ := List.mem_map.mp hr
  exact Nat.le_trans comeRow_len (by decide)
/-! ### first_states -/
def relFirst (ds : List PyData) (es : List PyData) : Prop := ∃ (ships : List Ship) (spans : List Int), ds = [eShips ships, eInts spans] ∧ 1 ≤ ships.length ∧ ships.length ≤ 3 ∧ es = (firstStates ships spans).map eState
abbrev sFirst : Stmt := topS 11
abbrev nFirst : List Str := ["ships", "spans", "places"]
theorem scFirst : FnScope nFirst ["ships", "spans"] (defScope sFirst) := ⟨rfl, rfl, rfl, by decide +kernel, rfl, by decide +kernel, by decide +kernel⟩
theorem ok_first {W : Wd} {f : Addr} {fd : FuncData} (F : Fun W.K "first_states" "first_states" sFirst f fd) (hm : W.mg "first_states" = some (.ref f)) (bi : Binds W.K fd ["ships", "spans"] []) (g : Gs W) (DC : Def W 2 "come" ["ships", "spans", "hour", "places"] (spD W relCome)) : Def W 3 "first_states" ["ships", "spans"] (spL W relFirst) := by
  refine ok_defL F scFirst hm bi (fun ds d h => ?_) fun ds d h cdv A outer s H E fm => ?_
  · obtain ⟨ships, spans, rfl, _⟩ := h; rfl
  · obtain ⟨ships, spans, rfl, h1, h3, rfl⟩ := h
    refine bx_one (sx_retL ((lc [("places", 2)] (.nm 2) (come ships spans 0 (List.replicate ships.length .far)) ePlaces (fun ps => eState (0, ps)) fm
      (ix_lst fm (call fm DC (ea_cons (v 0 rfl) (ea_cons (v 1 rfl) (ea_cons k0 (ea_cons (ex_op (od_rep fm (n := ((ships.map eShip).length : Int)) (by rw [List.length_map]; omega) (by rw [List.length_map]; omega)) (ex_tup (ea_cons (g_far fm g) ea_nil)) (c_len fm g (v 0 rfl))) ea_nil)))) ⟨true, ships, spans, 0, List.replicate ships.length .far, ?_, h3, rfl⟩))
      (p1 2 (fm.blk _)) (fun ps _ => ex_tup (ea_cons k0 (ea_cons (v 2 rfl) ea_nil))) (sz1000 (come_len h3))).is ?_))
    · rw [List.map_replicate, List.length_map]
      rfl
    · unfold firstStates
      rw [List.map_map]
      rfl
end TW
namespace TW
open PySem PySem.Spec PyProof.Rows L2
def forSts : Stmt → List Stmt
  | .For _ _ sts _ _ => sts
  | _ => []
/-! ### choices -/
def relChoices (ds : List PyData) (d : PyData) : Prop := ∃ (h : Harb) (t : Int) (s : Ship) (p : Place), ds = [eHarb h, .int t, eShip s, ePlace p] ∧ 1 ≤ h.depths.length ∧ h.berths.length ≤ 8 ∧ d = eInts (choices h t s p)
abbrev sChoices : Stmt := topS 12
abbrev nChoices : List Str := ["harbour", "hour", "ship", "place", "berth"]
theorem scChoices : FnScope nChoices ["harbour", "hour", "ship", "place"] (defScope sChoices) := ⟨rfl, rfl, rfl, by decide +kernel, rfl, by decide +kernel, by decide +kernel⟩
def tag : Place → Int
  | .far => 0
  | .sea => 1
  | .gone => 3
  | .lies _ _ => 2
def restP : Place → List PyData
  | .lies b l => [.int b, .int l]
  | _ => []
theorem ePlace_tag (p : Place) : ePlace p = .tuple (.int (tag p) :: restP p) := by cases p <;> rfl
theorem atI_nat' {l : List Int} {b : Nat} (h : b < l.length) : atI (l.map PyData.int) (b : Int) = some (.int (l.getD b 0)) := by
  have := atI_getD (l := l) (i := (b : Int)) (by omega) (by omega)
  simpa using this
section
variable {ι : Type} {W : Wd} {F : ι → Cx} {k : Nat} {Γ : SC} {e : Expr} {pos p1' p2' p3' p4' p5' : Pos} {p : Place} {j1 j2 j3 j4 : Nat}
theorem ex_tag (fm : Fm W k F) (h : EX W F e Γ (ePlace p)) {q1 q2 : Pos} {j : Nat} (hs : PlainIx (.Constant (.int 0) j q1) := by exact fun _ _ => rfl) : EX W F (.Subscript e (.Constant (.int 0) j q1) q2) Γ (.int (tag p)) := ixT fm (h.is (ePlace_tag p)) k0 (atI_nat (j := 0) rfl) hs
/-- place[0] == 2 and place[2] == 0 -/
theorem eb_lies (fm : Fm W k F) {q1 q2 q3 q4 : Pos} {j1 j2 : Nat} (h : EX W F e Γ (ePlace p)) : EB W F (.Compare (.Subscript e (.Constant (.int 0) j1 q1) q2) [.Eq] [.Constant (.int 2) j2 q3] q4) Γ (lieB p) :=
  (eb_cmp od_eqI (ex_tag fm h) k0).is (by cases p <;> rfl)
theorem eb_zero (fm : Fm W k F) {q1 q2 q3 q4 : Pos} {j1 j2 : Nat} (hl : lieB p = true) (h : EX W F e Γ (ePlace p)) : EB W F (.Compare (.Subscript e (.Constant (.int 2) j1 q1) q2) [.Eq] [.Constant (.int 0) j2 q3] q4) Γ (readyOut p) := by
  cases p with
  | lies b l => exact eb_cmp od_eqI (ixT fm h k0 rfl) k0
  | _ => cases hl
end
theorem ok_choices {W : Wd} {f : Addr} {fd : FuncData} (F : Fun W.K "choices" "choices" sChoices f fd) (hm : W.mg "choices" = some (.ref f)) (bi : Binds W.K fd ["harbour", "hour", "ship", "place"] []) (g : Gs W) (DD : Def W 1 "depth_at" ["harbour", "hour"] (spD W relDepth)) : Def W 2 "choices" ["harbour", "hour", "ship", "place"] (spD W relChoices) := by
  refine ok_def F scChoices hm bi (fun ds d h => ?_) fun ds d h cdv A outer s H E fm => ?_
  · obtain ⟨h, t, s, p, rfl, _⟩ := h; rfl
  · obtain ⟨h, t, sh, p, rfl, h0, h8, rfl⟩ := h
    refine bx_ifr (eb_cmp od_lt (call fm DD (ea_cons (v 0 rfl) (ea_cons (v 1 rfl) ea_nil)) ⟨h, t, rfl, h0, rfl⟩) (ixT fm (v 2 rfl) k0 rfl)) (fun c1 => bx_one (sx_ret ((ex_lst (ea_cons (g_stays fm g) ea_nil)).is ?_))) (fun c1 => ?_)
    · unfold choices; rw [if_pos (of_decide_eq_true c1)]; rfl
    · have c1' := of_decide_eq_false c1
      refine bx_ifr (eb_cmp (od_eqD fm (shaped_place p) rfl) (v 3 rfl) (g_sea fm g)) (fun c2 => bx_one (sx_ret ?_)) (fun c2 => bx_ifr (eb_w (ew_and (eb_lies fm (v 3 rfl)) (fun hl => ew_and1 (eb_zero fm hl (v 3 rfl))))) (fun c3 => bx_one (sx_ret ((ex_lst (ea_cons (g_out fm g) (ea_cons (g_stays fm g) ea_nil))).is ?_))) (fun c3 => bx_one (sx_ret ((ex_lst (ea_cons (g_stays fm g) ea_nil)).is ?_))))
      · rw [eqv_sea] at c2
        cases of_decide_eq_true c2
        refine (ex_op (od_cat ?_) (ex_lst (ea_cons (g_stays fm g) ea_nil)) (lcF [("berth", 4)] (.nm 4) (List.range h.berths.length) (fun (b : Nat) => .int b) (fun b => decide (sh.len ≤ h.berths.getD b 0)) (fun b => .int b) fm
          ((irg fm g (c_len fm g (ixT fm (v 0 rfl) k0 rfl)) (by omega) (by rw [List.length_map]; omega)).is (by rw [List.length_map]; rfl)) (p1 4 (fm.blk _))
          (fun b hb => eb_cmp od_ge (ixL (fm.blk _) (ixT (fm.blk _) (v 0 rfl) k0 rfl) (v 4 rfl) (atI_nat' (List.mem_range.mp hb))) (ixT (fm.blk _) (v 2 rfl) k0 rfl)) (fun b _ _ => v 4 rfl) (sz1000 (by rw [List.length_range]; omega))).ex).is ?_
        · rw [List.length_map]
          have := List.length_filter_le (fun b => decide (sh.len ≤ h.berths.getD b 0)) (List.range h.berths.length)
          rw [List.length_range] at this
          exact sz1000 (by rw [List.length_cons, List.length_nil]; omega)
        · unfold choices
          rw [if_neg c1']
          unfold eInts
          rw [List.map_cons, List.map_map]
          rfl
      · unfold choices
        rw [if_neg c1']
        have c4 : lieB p = true ∧ readyOut p = true := by
          cases hl : lieB p with
          | true => rw [hl] at c3; exact ⟨rfl, by simpa using c3⟩
          | false => rw [hl] at c3; cases c3
        cases p with
        | lies b l => have := of_decide_eq_true c4.2; subst this; rfl
        | _ => cases c4.1
      · unfold choices
        rw [if_neg c1']
        rw [eqv_sea] at c2
        cases p with
        | far => rfl
        | gone => rfl
        | sea => exact absurd rfl (of_decide_eq_false c2)
        | lies b l =>
          have c5 : readyOut (.lies b l) = false := c3
          show _ = eInts (if l = 0 then [-2, -1] else [-1])
          rw [if_neg (of_decide_eq_false c5)]
          rfl
/-! ### goes -/
theorem freeOk_true : ∀ {ms tk : List Int}, freeOk tk ms = true → ∀ t u, ms[t]? = some u → 0 ≤ u → u ∉ tk ++ (ms.take t).filter (fun m => decide (0 ≤ m))
  | [], _, _, _, _, h, _ => by simp at h
  | m :: ms, tk, hf, 0, u, h, h0 => by
    have e : m = u := by simpa using h
    subst e
    unfold freeOk at hf
    rw [if_pos h0] at hf
    simp only [List.take_zero, List.filter_nil, List.append_nil]
    intro hm
    rw [if_pos hm] at hf
    cases hf
  | m :: ms, tk, hf, t + 1, u, h, h0 => by
    have h' : ms[t]? = some u := by simpa using h
    unfold freeOk at hf
    rw [List.take_succ_cons, List.filter_cons]
    by_cases hm : 0 ≤ m
    · rw [if_pos hm] at hf
      by_cases hin : m ∈ tk
      · rw [if_pos hin] at hf; cases hf
      · rw [if_neg hin] at hf
        have := freeOk_true hf t u h' h0
        simpa [hm] using this
    · rw [if_neg hm] at hf
      have := freeOk_true hf t u h' h0
      simpa [hm] using this
theorem freeOk_false : ∀ {ms tk : List Int}, freeOk tk ms = false → ∃ t u, ms[t]? = some u ∧ 0 ≤ u ∧ u ∈ tk ++ (ms.take t).filter (fun m => decide (0 ≤ m)) ∧ ∀ t' u', t' < t → ms[t']? = some u' → 0 ≤ u' → u' ∉ tk ++ (ms.take t').filter (fun m => decide (0 ≤ m))
  | [], _, h => by cases h
  | m :: ms, tk, hf => by
    unfold freeOk at hf
    by_cases hm : 0 ≤ m
    · rw [if_pos hm] at hf
      by_cases hin : m ∈ tk
      · exact ⟨0, m, rfl, hm, by simpa using hin, fun t' _ h => absurd h (Nat.not_lt_zero _)⟩
      · rw [if_neg hin] at hf
        obtain ⟨t, u, h1, h2, h3, h4⟩ := freeOk_false hf
        refine ⟨t + 1, u, by simpa using h1, h2, by simpa [hm] using h3, fun t' u' ht hu h0 => ?_⟩
        cases t' with
        | zero =>
          have e : m = u' := by simpa using hu
          subst e
          simpa using hin
        | succ t' =>
          have := h4 t' u' (by omega) (by simpa using hu) h0
          simpa [hm] using this
    · rw [if_neg hm] at hf
      obtain ⟨t, u, h1, h2, h3, h4⟩ := freeOk_false hf
      refine ⟨t + 1, u, by simpa using h1, h2, by simpa [hm] using h3, fun t' u' ht hu h0 => ?_⟩
      cases t' with
      | zero =>
        have e : m = u' := by simpa using hu
        subst e
        exact absurd h0 hm
      | succ t' =>
        have := h4 t' u' (by omega) (by simpa using hu) h0
        simpa [hm] using this
def relGoes (ds : List PyData) (d : PyData) : Prop := ∃ (h : Harb) (ships : List Ship) (places : List Place) (move : List Int), ds = [eHarb h, eShips ships, ePlaces places, eMove move] ∧ ships.length ≤ 3 ∧ places.length ≤ 3 ∧ move.length ≤ 3 ∧ d = .bool (goes h ships places move)
abbrev sGoes : Stmt := topS 13
abbrev nGoes : List Str := ["harbour", "ships", "places", "move", "taken", "told", "moving", "place", "ship"]
theorem scGoes : FnScope nGoes ["harbour", "ships", "places", "move"] (defScope sGoes) := ⟨rfl, rfl, rfl, by decide +kernel, rfl, by decide +kernel, by decide +kernel⟩
theorem any_eq_mem {n : Int} {l : List Int} : (l.any fun j => decide (j = n)) = decide (n ∈ l) := by
  rw [Bool.eq_iff_iff, List.any_eq_true, decide_eq_true_eq]
  constructor
  · rintro ⟨x, hx, e⟩
    exact of_decide_eq_true e ▸ hx
  · exact fun h => ⟨n, h, decide_eq_true rfl⟩
theorem ok_goes {W : Wd} {f : Addr} {fd : FuncData} (F : Fun W.K "goes" "goes" sGoes f fd) (hm : W.mg "goes" = some (.ref f)) (bi : Binds W.K fd ["harbour", "ships", "places", "move"] []) (g : Gs W) : Def W 1 "goes" ["harbour", "ships", "places", "move"] (spD W relGoes) := by
  refine ok_def F scGoes hm bi (fun ds d h => ?_) fun ds d h cdv A outer s H E fm => ?_
  · obtain ⟨h, ships, places, move, rfl, _⟩ := h; rfl
  · obtain ⟨h, ships, places, move, rfl, h1, h2, h3, rfl⟩ := h
    have ek : ((places.filter lieB).map fun p => PyData.int (berthOf p)) = (takenOf places).map .int := by unfold takenOf; rw [List.map_map]; rfl
    have tkl : (takenOf places).length ≤ 3 := by unfold takenOf; rw [List.length_map]; exact Nat.le_trans (List.length_filter_le _ _) h2
    refine bx_cons (set_lcF 4 [("place", 7)] (.nm 7) places ePlace lieB (fun p => .int (berthOf p)) fm (ix_tp fm (v 2 rfl)) (p1 7 (fm.blk _)) (fun p _ => eb_lies (fm.blk _) (v 7 rfl)) (fun p _ hp => ?_) (sz1000 (by omega))) ?_
    · cases p with
      | lies b l => exact ixT (fm.blk _) (v 7 rfl) k0 rfl
      | _ => cases hp
    rw [ek]
    have body : ∀ t u, move[t]? = some u → (0 ≤ u → u ∉ takenOf places ++ (move.take t).filter (fun m => decide (0 ≤ m))) → BX W (bodyF W nGoes "goes" (defScope sGoes) f cdv A outer s H E) (forSts ((defBody sGoes).getD 1 (.Pass ⟨0, 0, 0, 0⟩))) (((.nm 5 : Tg)).put [.im (eHarb h), .im (eShips ships), .im (ePlaces places), .im (eMove move), .mu ((takenOf places ++ (move.take t).filter (fun m => decide (0 ≤ m))).map .int), .un, .un, .un, .un] (.int u)) (.nx [.im (eHarb h), .im (eShips ships), .im (ePlaces places), .im (eMove move), .mu ((takenOf places ++ (move.take (t + 1)).filter (fun m => decide (0 ≤ m))).map .int), .un, .un, .un, .un]) := fun t u hu hn => by
      have ht := (List.getElem?_eq_some_iff.mp hu).1
      have em : (move.take (t + 1)).filter (fun m => decide (0 ≤ m)) = (move.take t).filter (fun m => decide (0 ≤ m)) ++ (if 0 ≤ u then [u] else []) := by
        rw [List.take_add_one, hu, List.filter_append]
        congr 1
        show List.filter _ [u] = _
        by_cases h0 : 0 ≤ u <;> simp [h0]
      refine bx_wk (Γ2 := [.im (eHarb h), .im (eShips ships), .im (ePlaces places), .im (eMove move), .mu ((takenOf places ++ (move.take (t + 1)).filter (fun m => decide (0 ≤ m))).map .int), .im (.int u), .un, .un, .un]) ?_ (.same (.same (.same (.same (.same (.un (.same (.same (.same .nil)))))))))
      refine bx_one (sx_if (eb_cmp od_ge (v 5 rfl) k0) (fun hc => ?_) (fun hc => ?_))
      · have h0 : 0 ≤ u := of_decide_eq_true hc
        rw [em, if_pos h0, ← List.append_assoc, List.map_append (l₁ := takenOf places ++ _)]
        refine bx_cons (sx_ifF ((eb_thaw 4 rfl (eb_cmp (od_inI fm) (v 5 rfl) (v 4 rfl))).is ?_) bx_nil) (bx_one (app 4 fm rfl (v 5 rfl) ?_))
        · rw [any_eq_mem]
          exact decide_eq_false (hn h0)
        · rw [List.length_map, List.length_append]
          have := List.length_filter_le (fun m => decide (0 ≤ m)) (move.take t)
          rw [List.length_take] at this
          have z : (10 : Nat) ≤ sizeLine := by decide
          omega
      · have h0 : ¬ 0 ≤ u := of_decide_eq_false hc
        rw [em, if_neg h0, List.append_nil]
        exact bx_nil
    cases hf : freeOk (takenOf places) move with
    | true =>
      refine bx_cons (sx_forL move .int (fun t => [.im (eHarb h), .im (eShips ships), .im (ePlaces places), .im (eMove move), .mu ((takenOf places ++ (move.take t).filter (fun m => decide (0 ≤ m))).map .int), .un, .un, .un, .un]) ?_ (ix_tp fm (v 3 rfl)) fm (p1 5 fm) (fun t u hu => body t u hu (freeOk_true hf t u hu))) ?_
      · simp only [List.take_zero, List.filter_nil, List.append_nil]
        rfl
      · refine bx_cons (set_lcF 6 [("ship", 8), ("told", 5)] (.tp [8, 5]) (ships.zip move) (fun r => .tuple [eShip r.1, .int r.2]) (fun r => !decide (r.2 = -1)) (fun r => .int r.1.need) fm (iz2 false true fm g (v 1 rfl) (v 3 rfl)) (pgx_tp (fm.blk _) (pn 8 (fm.blk _) (pn 5 (fm.blk _) pgsx_nil)))
          (fun r _ => eb_cmp od_neI (v 5 rfl) (g_stays (fm.blk _) g)) (fun r _ _ => ixT (fm.blk _) (v 8 rfl) k0 rfl) (sz1000 (by rw [List.length_zip]; omega))) (bx_freeze 6 rfl ?_)
        have e2 : (((ships.zip move).filter fun r => !decide (r.2 = -1)).map fun r => PyData.int r.1.need) = (movingOf ships move).map .int := by unfold movingOf; rw [List.map_map]; rfl
        rw [e2]
        refine bx_one (sx_ret ((ex_and (ex_cmp od_le (c_sum fm g (v 6 rfl)) (ixT fm (v 0 rfl) k0 rfl)) (fun _ => ex_one (ex_cmp od_le (c_len fm g (v 6 rfl)) (ixT fm (v 0 rfl) k0 rfl)))).is ?_))
        unfold goes
        rw [hf, List.length_map, Bool.true_and]
    | false =>
      obtain ⟨t0, u0, k1, k2, k3, k4⟩ := freeOk_false hf
      have eg : goes h ships places move = false := by unfold goes; rw [hf, Bool.false_and]
      rw [eg]
      refine bx_end (sx_forLR move .int (fun t => [.im (eHarb h), .im (eShips ships), .im (ePlaces places), .im (eMove move), .mu ((takenOf places ++ (move.take t).filter (fun m => decide (0 ≤ m))).map .int), .un, .un, .un, .un]) t0 u0 k1 ?_ (ix_tp fm (v 3 rfl)) fm (p1 5 fm) (fun t u lt hu => body t u hu (k4 t u lt hu)) ?_)
      · simp only [List.take_zero, List.filter_nil, List.append_nil]
        rfl
      · refine bx_one (sx_ifT ((eb_cmp od_ge (v 5 rfl) k0).is (decide_eq_true k2)) (bx_end (sx_ifT ((eb_thaw 4 rfl (eb_cmp (od_inI fm) (v 5 rfl) (v 4 rfl))).is ?_) (bx_one (sx_ret ex_bl)))))
        rw [any_eq_mem]
        exact decide_eq_true k3
end TW
namespace TW
open PySem PySem.Spec PyProof.Rows L2
theorem choices_len {h : Harb} {t : Int} {s : Ship} {p : Place} (h8 : h.berths.length ≤ 8) : (choices h t s p).length ≤ 10 := by
  unfold choices
  split
  · exact Nat.le_of_ble_eq_true rfl
  · cases p with
    | sea =>
      have := List.length_filter_le (fun b => decide (s.len ≤ h.berths.getD b 0)) (List.range h.berths.length)
      rw [List.length_range] at this
      show (-1 :: List.map _ _).length ≤ 10
      rw [List.length_cons, List.length_map]
      omega
    | lies b l =>
      show (if l = 0 then [-2, -1] else [-1] : List Int).length ≤ 10
      split <;> exact Nat.le_of_ble_eq_true rfl
    | far => exact Nat.le_of_ble_eq_true rfl
    | gone => exact Nat.le_of_ble_eq_true rfl
theorem rows_len {h : Harb} {ships : List Ship} {s : State} (h3 : ships.length ≤ 3) : (choiceRows h ships s).length ≤ 3 := by
  unfold choiceRows
  rw [List.length_map, List.length_zip]
  exact Nat.le_trans (Nat.min_le_left _ _) h3
theorem prodm_len {h : Harb} {ships : List Ship} {s : State} (h3 : ships.length ≤ 3) (h8 : h.berths.length ≤ 8) : (prod (choiceRows h ships s)).length ≤ 1000 := by
  refine prod_all (fun r hr => ?_) (rows_len h3)
  obtain ⟨q, _, rfl⟩ := List.mem_map.mp hr
  exact choices_len h8
theorem moves_len {h : Harb} {ships : List Ship} {s : State} (h3 : ships.length ≤ 3) (h8 : h.berths.length ≤ 8) : (movesOf h ships s).length ≤ 1000 := Nat.le_trans (List.length_filter_le _ _) (prodm_len h3 h8)
theorem prod_mem_len {α : Type} {rows : List (List α)} {one : List α} (h : one ∈ prod rows) : one.length = rows.length := prod_memlen rows.length (Nat.le_refl _) one (by rw [List.take_length]; exact h)
theorem move_len {h : Harb} {ships : List Ship} {s : State} {m : List Int} (hm : m ∈ prod (choiceRows h ships s)) (h3 : ships.length ≤ 3) : m.length ≤ 3 := by
  rw [prod_mem_len hm]
  exact rows_len h3
/-! ### moves_of -/
def relMoves (ds : List PyData) (d : PyData) : Prop := ∃ (h : Harb) (ships : List Ship) (s : State), ds = [eHarb h, eShips ships, eState s] ∧ 1 ≤ h.depths.length ∧ h.berths.length ≤ 8 ∧ ships.length ≤ 3 ∧ s.2.length ≤ 3 ∧ d = .list ((movesOf h ships s).map eMove)
abbrev sMoves : Stmt := topS 14
abbrev nMoves : List Str := ["harbour", "ships", "state", "hour", "places", "lists", "ship", "place", "move"]
theorem scMoves : FnScope nMoves ["harbour", "ships", "state"] (defScope sMoves) := ⟨rfl, rfl, rfl, by decide +kernel, rfl, by decide +kernel, by decide +kernel⟩
theorem ok_moves {W : Wd} {f : Addr} {fd : FuncData} (F : Fun W.K "moves_of" "moves_of" sMoves f fd) (hm : W.mg "moves_of" = some (.ref f)) (bi : Binds W.K fd ["harbour", "ships", "state"] []) (g : Gs W)
    (DC : Def W 2 "choices" ["harbour", "hour", "ship", "place"] (spD W relChoices)) (DP : Def W 1 "product" ["lists"] (spD W relProduct)) (DG : Def W 1 "goes" ["harbour", "ships", "places", "move"] (spD W relGoes)) : Def W 3 "moves_of" ["harbour", "ships", "state"] (spD W relMoves) := by
  refine ok_def F scMoves hm bi (fun ds d h => ?_) fun ds d h cdv A outer s H E fm => ?_
  · obtain ⟨h, ships, st, rfl, _⟩ := h; rfl
  · obtain ⟨h, ships, st, rfl, h0, h8, h3, hp, rfl⟩ := h
    refine bx_cons (sx_unp (T := .tp [3, 4]) (v 2 rfl) (pgx_tp fm (pn 3 fm (pn 4 fm pgsx_nil))) rfl) ?_
    refine bx_cons (set_lc 5 [("ship", 6), ("place", 7)] (.tp [6, 7]) (ships.zip st.2) (fun r => .tuple [eShip r.1, ePlace r.2]) (fun r => eInts (choices h st.1 r.1 r.2)) fm (iz2 false true fm g (v 1 rfl) (v 4 rfl)) (pgx_tp (fm.blk _) (pn 6 (fm.blk _) (pn 7 (fm.blk _) pgsx_nil)))
      (fun r _ => call (fm.blk _) DC (ea_cons (v 0 rfl) (ea_cons (v 3 rfl) (ea_cons (v 6 rfl) (ea_cons (v 7 rfl) ea_nil)))) ⟨h, st.1, r.1, r.2, rfl, h0, h8, rfl⟩) (sz1000 (by rw [List.length_zip]; omega))) (bx_freeze 5 rfl (bx_one (sx_ret ?_)))
    have er : ((ships.zip st.2).map fun r => eInts (choices h st.1 r.1 r.2)) = ((choiceRows h ships st).map (List.map PyData.int)).map .list := by
      unfold choiceRows
      rw [List.map_map, List.map_map]
      rfl
    refine (lcF [("move", 8)] (.nm 8) (prod (choiceRows h ships st)) eMove (goes h ships st.2) eMove fm (ix_lst fm (call fm DP (ea_cons (v 5 rfl) ea_nil) ⟨(choiceRows h ships st).map (List.map PyData.int), by rw [er], fun r hr => ?_, ?_, ?_⟩)) (p1 8 (fm.blk _))
      (fun m hmm => eb_bl (call (fm.blk _) DG (ea_cons (v 0 rfl) (ea_cons (v 1 rfl) (ea_cons (v 4 rfl) (ea_cons (v 8 rfl) ea_nil)))) ⟨h, ships, st.2, m, rfl, h3, hp, move_len hmm h3, rfl⟩) (fun _ _ => rfl)) (fun m _ _ => v 8 rfl) (sz1000 (prodm_len h3 h8))).ex
    · obtain ⟨q, hq, rfl⟩ := List.mem_map.mp hr
      obtain ⟨q2, _, rfl⟩ := List.mem_map.mp hq
      rw [List.length_map]
      exact choices_len h8
    · rw [List.length_map]; exact rows_len h3
    · rw [prod_map, List.map_map]; rfl
/-! ### cost_of_move -/
def relCost (ds : List PyData) (d : PyData) : Prop := ∃ (ships : List Ship) (s : State) (m : List Int), ds = [eShips ships, eState s, eMove m] ∧ d = .int (costOf ships s.2 m)
abbrev sCost : Stmt := topS 15
abbrev nCost : List Str := ["ships", "state", "move", "cost", "ship", "place", "told"]
theorem scCost : FnScope nCost ["ships", "state", "move"] (defScope sCost) := ⟨rfl, rfl, rfl, by decide +kernel, rfl, by decide +kernel, by decide +kernel⟩
theorem ok_cost {W : Wd} {f : Addr} {fd : FuncData} (F : Fun W.K "cost_of_move" "cost_of_move" sCost f fd) (hm : W.mg "cost_of_move" = some (.ref f)) (bi : Binds W.K fd ["ships", "state", "move"] []) (g : Gs W) : Def W 1 "cost_of_move" ["ships", "state", "move"] (spD W relCost) := by
  refine ok_def F scCost hm bi (fun ds d h => ?_) fun ds d h cdv A outer s H E fm => ?_
  · obtain ⟨ships, st, m, rfl, _⟩ := h; rfl
  · obtain ⟨ships, st, m, rfl, rfl⟩ := h
    refine bx_cons (put 3 fm k0) (bx_cons (sx_forL (ships.zip (st.2.zip m)) (fun r => .tuple [eShip r.1, ePlace r.2.1, .int r.2.2]) (fun t => [.im (eShips ships), .im (eState st), .im (eMove m), .im (.int (((ships.zip (st.2.zip m)).take t).map fun r => costOne r.1 r.2.1 r.2.2).sum), .un, .un, .un]) rfl
      (iz3 false true true fm g (v 0 rfl) (ixT fm (v 1 rfl) k0 rfl) (v 2 rfl)) fm (pgx_tp fm (pn 4 fm (pn 5 fm (pn 6 fm pgsx_nil)))) (fun t r hr => ?_)) (bx_one (sx_ret ((v 3 rfl).is (by rw [List.take_length]; rfl)))))
    obtain ⟨sh, p, u⟩ := r
    refine bx_wk (Γ2 := [.im (eShips ships), .im (eState st), .im (eMove m), .im (.int (((ships.zip (st.2.zip m)).take (t + 1)).map fun r => costOne r.1 r.2.1 r.2.2).sum), .im (eShip sh), .im (ePlace p), .im (.int u)]) ?_ (.same (.same (.same (.same (.un (.un (.un .nil)))))))
    rw [map_take1 hr, List.sum_append_int]
    generalize (((ships.zip (st.2.zip m)).take t).map fun r => costOne r.1 r.2.1 r.2.2).sum = c
    have e : c + [costOne sh p u].sum = c + (if p = .sea ∧ u = -1 then sh.sea else 0) + (if readyOut p = true ∧ u = -1 then sh.lie else 0) := by
      simp only [List.sum_cons, List.sum_nil, costOne]
      omega
    simp only [e]
    refine bx_cons (Γ1 := [.im (eShips ships), .im (eState st), .im (eMove m), .im (.int (c + (if p = .sea ∧ u = -1 then sh.sea else 0))), .im (eShip sh), .im (ePlace p), .im (.int u)])
      (sx_if (eb_w (ew_and (eb_cmp (od_eqD fm (shaped_place p) rfl) (v 5 rfl) (g_sea fm g)) (fun _ => ew_and1 (eb_cmp od_eqI (v 6 rfl) (g_stays fm g))))) (fun hc => ?_) (fun hc => ?_))
      (bx_one (sx_if (eb_w (ew_and (eb_lies fm (v 5 rfl)) (fun hl => ew_and (eb_zero fm hl (v 5 rfl)) (fun _ => ew_and1 (eb_cmp od_eqI (v 6 rfl) (g_stays fm g)))))) (fun hc => ?_) (fun hc => ?_)))
    · rw [eqv_sea, Bool.and_eq_true, decide_eq_true_eq, decide_eq_true_eq] at hc
      rw [if_pos hc]
      exact bx_one (aug 3 fm rfl (ixT fm (v 4 rfl) k0 rfl) od_iadd)
    · rw [eqv_sea, Bool.and_eq_false_iff, decide_eq_false_iff_not, decide_eq_false_iff_not] at hc
      rw [if_neg (fun z => hc.elim (fun q => q z.1) (fun q => q z.2)), Int.add_zero]
      exact bx_nil
    · rw [Bool.and_eq_true, Bool.and_eq_true, decide_eq_true_eq] at hc
      rw [if_pos hc.2]
      exact bx_one (aug 3 fm rfl (ixT fm (v 4 rfl) k0 rfl) od_iadd)
    · have : ¬ (readyOut p = true ∧ u = -1) := fun z => by
        have hl : lieB p = true := by cases p <;> first | rfl | (cases z.1)
        rw [hl, z.1, decide_eq_true z.2] at hc
        cases hc
      rw [if_neg this, Int.add_zero]
      exact bx_nil
/-! ### place_behind -/
def relBehind (ds : List PyData) (d : PyData) : Prop := ∃ (s : Ship) (p : Place) (u : Int), ds = [eShip s, ePlace p, .int u] ∧ d = ePlace (placeBehind s p u)
abbrev sBehind : Stmt := topS 16
abbrev nBehind : List Str := ["ship", "place", "told"]
theorem scBehind : FnScope nBehind ["ship", "place", "told"] (defScope sBehind) := ⟨rfl, rfl, rfl, by decide +kernel, rfl, by decide +kernel, by decide +kernel⟩
theorem ok_behind {W : Wd} {f : Addr} {fd : FuncData} (F : Fun W.K "place_behind" "place_behind" sBehind f fd) (hm : W.mg "place_behind" = some (.ref f)) (bi : Binds W.K fd ["ship", "place", "told"] []) (g : Gs W) : Def W 1 "place_behind" ["ship", "place", "told"] (spD W relBehind) := by
  refine ok_def F scBehind hm bi (fun ds d h => ?_) fun ds d h cdv A outer s H E fm => ?_
  · obtain ⟨sh, p, u, rfl, _⟩ := h; rfl
  · obtain ⟨sh, p, u, rfl, rfl⟩ := h
    refine bx_ifr (eb_cmp od_eqI (v 2 rfl) (g_out fm g)) (fun c1 => ?_) (fun c1 => bx_ifr (eb_cmp od_ge (v 2 rfl) k0) (fun c2 => ?_) (fun c2 => bx_ifr (eb_lies fm (v 1 rfl)) (fun c3 => ?_) (fun c3 => ?_)))
    · unfold placeBehind
      rw [if_pos (of_decide_eq_true c1)]
      exact bx_one (sx_ret (g_gone fm g))
    · unfold placeBehind
      rw [if_neg (of_decide_eq_false c1), if_pos (of_decide_eq_true c2)]
      exact bx_one (sx_ret (ex_tup (ea_cons k0 (ea_cons (v 2 rfl) (ea_cons (ixT fm (v 0 rfl) k0 rfl) ea_nil)))))
    · unfold placeBehind
      rw [if_neg (of_decide_eq_false c1), if_neg (of_decide_eq_false c2)]
      cases p with
      | lies b l => exact bx_one (sx_ret (ex_tup (ea_cons k0 (ea_cons (ixT fm (v 1 rfl) k0 rfl) (ea_cons (c_max fm g k0 (ex_op od_sub (ixT fm (v 1 rfl) k0 rfl) k0)) ea_nil)))))
      | _ => cases c3
    · unfold placeBehind
      rw [if_neg (of_decide_eq_false c1), if_neg (of_decide_eq_false c2)]
      cases p with
      | lies b l => cases c3
      | _ => exact bx_one (sx_ret (v 1 rfl))
/-! ### is_end, misses -/
def relEnd (ds : List PyData) (d : PyData) : Prop := ∃ (s : State) (m : List Int), ds = [eState s, eMove m] ∧ s.2.length ≤ 3 ∧ d = .bool (isEnd s.2 m)
abbrev sEnd : Stmt := topS 17
abbrev nEnd : List Str := ["state", "move", "place", "told"]
theorem scEnd : FnScope nEnd ["state", "move"] (defScope sEnd) := ⟨rfl, rfl, rfl, by decide +kernel, rfl, by decide +kernel, by decide +kernel⟩
theorem ok_end {W : Wd} {f : Addr} {fd : FuncData} (F : Fun W.K "is_end" "is_end" sEnd f fd) (hm : W.mg "is_end" = some (.ref f)) (bi : Binds W.K fd ["state", "move"] []) (g : Gs W) : Def W 1 "is_end" ["state", "move"] (spD W relEnd) := by
  refine ok_def F scEnd hm bi (fun ds d h => ?_) fun ds d h cdv A outer s H E fm => ?_
  · obtain ⟨st, m, rfl, _⟩ := h; rfl
  · obtain ⟨st, m, rfl, h3, rfl⟩ := h
    refine bx_one (sx_ret ((c_all fm g (bs := (st.2.zip m).map fun r => decide (r.1 = .gone) || decide (r.2 = -2)) ((lc [("place", 2), ("told", 3)] (.tp [2, 3]) (st.2.zip m) (fun r => .tuple [ePlace r.1, .int r.2]) (fun r => .bool (decide (r.1 = .gone) || decide (r.2 = -2))) fm
      (iz2 true true fm g (ixT fm (v 0 rfl) k0 rfl) (v 1 rfl)) (pgx_tp (fm.blk _) (pn 2 (fm.blk _) (pn 3 (fm.blk _) pgsx_nil))) (fun r _ => ?_) (sz1000 (by rw [List.length_zip]; omega))).ex.is ?_)).is ?_))
    · refine (ex_or (ex_cmp (od_eqD (fm.blk _) (shaped_place r.1) rfl) (v 2 rfl) (g_gone (fm.blk _) g)) (fun _ => ex_one (ex_cmp od_eqI (v 3 rfl) (g_out (fm.blk _) g)))).is ?_
      rw [eqv_gone]
    · rw [List.map_map]; rfl
    · unfold isEnd
      rw [List.all_map]
      rfl
def relMisses (ds : List PyData) (d : PyData) : Prop := ∃ (h : Harb) (s : State) (m : List Int), ds = [eHarb h, eState s, eMove m] ∧ s.2.length ≤ 3 ∧ d = .bool (misses h s m)
abbrev sMisses : Stmt := topS 19
abbrev nMisses : List Str := ["harbour", "state", "move"]
theorem scMisses : FnScope nMisses ["harbour", "state", "move"] (defScope sMisses) := ⟨rfl, rfl, rfl, by decide +kernel, rfl, by decide +kernel, by decide +kernel⟩
theorem ok_misses {W : Wd} {f : Addr} {fd : FuncData} (F : Fun W.K "misses" "misses" sMisses f fd) (hm : W.mg "misses" = some (.ref f)) (bi : Binds W.K fd ["harbour", "state", "move"] []) (g : Gs W) (DE : Def W 1 "is_end" ["state", "move"] (spD W relEnd)) : Def W 2 "misses" ["harbour", "state", "move"] (spD W relMisses) := by
  refine ok_def F scMisses hm bi (fun ds d h => ?_) fun ds d h cdv A outer s H E fm => ?_
  · obtain ⟨h, st, m, rfl, _⟩ := h; rfl
  · obtain ⟨h, st, m, rfl, h3, rfl⟩ := h
    exact bx_one (sx_ret (ex_and (ex_cmp od_eqI (ixT fm (v 1 rfl) k0 rfl) (ixT fm (v 0 rfl) k0 rfl)) (fun _ => ex_one (ex_not (call fm DE (ea_cons (v 1 rfl) (ea_cons (v 2 rfl) ea_nil)) ⟨st, m, rfl, h3, rfl⟩)))))
/-! ### states_behind -/
def relStates (ds : List PyData) (d : PyData) : Prop := ∃ (h : Harb) (ships : List Ship) (spans : List Int) (s : State) (m : List Int), ds = [eHarb h, eShips ships, eInts spans, eState s, eMove m] ∧ ships.length ≤ 3 ∧ s.2.length ≤ 3 ∧ d = .list ((statesBehind h ships spans s m).map eState)
abbrev sStates : Stmt := topS 18
abbrev nStates : List Str := ["harbour", "ships", "spans", "state", "move", "hour", "places", "later", "ship", "place", "told", "one"]
theorem scStates : FnScope nStates ["harbour", "ships", "spans", "state", "move"] (defScope sStates) := ⟨rfl, rfl, rfl, by decide +kernel, rfl, by decide +kernel, by decide +kernel⟩
theorem ok_states {W : Wd} {f : Addr} {fd : FuncData} (F : Fun W.K "states_behind" "states_behind" sStates f fd) (hm : W.mg "states_behind" = some (.ref f)) (bi : Binds W.K fd ["harbour", "ships", "spans", "state", "move"] []) (g : Gs W)
    (DE : Def W 1 "is_end" ["state", "move"] (spD W relEnd)) (DB : Def W 1 "place_behind" ["ship", "place", "told"] (spD W relBehind)) (DC : Def W 2 "come" ["ships", "spans", "hour", "places"] (spD W relCome)) : Def W 3 "states_behind" ["harbour", "ships", "spans", "state", "move"] (spD W relStates) := by
  refine ok_def F scStates hm bi (fun ds d h => ?_) fun ds d h cdv A outer s H E fm => ?_
  · obtain ⟨h, ships, spans, st, m, rfl, _⟩ := h; rfl
  · obtain ⟨h, ships, spans, st, m, rfl, h3, hp, rfl⟩ := h
    refine bx_cons (sx_unp (T := .tp [5, 6]) (v 3 rfl) (pgx_tp fm (pn 5 fm (pn 6 fm pgsx_nil))) rfl) ?_
    refine bx_ifr (eb_w (ew_or (eb_bl (call fm DE (ea_cons (v 3 rfl) (ea_cons (v 4 rfl) ea_nil)) ⟨st, m, rfl, hp, rfl⟩) (fun _ _ => rfl)) (fun _ => ew_or1 (eb_cmp od_eqI (v 5 rfl) (ixT fm (v 0 rfl) k0 rfl))))) (fun c => ?_) (fun c => ?_)
    · unfold statesBehind
      rw [Bool.or_eq_true, decide_eq_true_eq] at c
      rw [if_pos c]
      exact bx_one (sx_ret (ex_lst ea_nil))
    · unfold statesBehind
      rw [Bool.or_eq_false_iff, decide_eq_false_iff_not] at c
      rw [if_neg (fun z => z.elim (fun q => by rw [c.1] at q; cases q) c.2)]
      refine bx_cons (set_lc 7 [("ship", 8), ("place", 9), ("told", 10)] (.tp [8, 9, 10]) (ships.zip (st.2.zip m)) (fun r => .tuple [eShip r.1, ePlace r.2.1, .int r.2.2]) (fun r => ePlace (placeBehind r.1 r.2.1 r.2.2)) fm (iz3 false true true fm g (v 1 rfl) (v 6 rfl) (v 4 rfl))
        (pgx_tp (fm.blk _) (pn 8 (fm.blk _) (pn 9 (fm.blk _) (pn 10 (fm.blk _) pgsx_nil)))) (fun r _ => call (fm.blk _) DB (ea_cons (v 8 rfl) (ea_cons (v 9 rfl) (ea_cons (v 10 rfl) ea_nil))) ⟨r.1, r.2.1, r.2.2, rfl, rfl⟩) (sz1000 (by rw [List.length_zip]; omega))) (bx_freeze 7 rfl ?_)
      have e : ((ships.zip (st.2.zip m)).map fun r => ePlace (placeBehind r.1 r.2.1 r.2.2)) = (laterOf ships st.2 m).map ePlace := by unfold laterOf; rw [List.map_map]; rfl
      rw [e]
      refine bx_one (sx_ret ((lc [("one", 11)] (.nm 11) (come ships spans (st.1 + 1) (laterOf ships st.2 m)) ePlaces (fun ps => eState (st.1 + 1, ps)) fm (ix_lst fm (call fm DC (ea_cons (v 1 rfl) (ea_cons (v 2 rfl) (ea_cons (ex_op od_add (v 5 rfl) k0) (ea_cons (v 7 rfl) ea_nil)))) ⟨false, ships, spans, st.1 + 1, laterOf ships st.2 m, rfl, h3, rfl⟩))
        (p1 11 (fm.blk _)) (fun ps _ => ex_tup (ea_cons (ex_op od_add (v 5 rfl) k0) (ea_cons (v 11 rfl) ea_nil))) (sz1000 (come_len h3))).ex.is ?_))
      rw [List.map_map]
      rfl
end TW
/-! Products; which states there are; the numbers of the states. -/
namespace TW
open PySem PySem.W
def Pick {α : Type} : List (List α) → List α → Prop
  | [], [] => True
  | r :: rs, x :: xs => x ∈ r ∧ Pick rs xs
  | _, _ => False
theorem mem_prod {α : Type} {rows : List (List α)} {l : List α} : l ∈ prod rows ↔ Pick rows l := by
  have gen : ∀ (rows : List (List α)) (acc : List (List α)) (l : List α), l ∈ rows.foldl (fun found row => found.flatMap fun one => row.map fun e => one ++ [e]) acc ↔ ∃ a t, a ∈ acc ∧ Pick rows t ∧ l = a ++ t := by
    intro rows
    induction rows with
    | nil =>
      intro acc l
      constructor
      · exact fun h => ⟨l, [], h, trivial, by simp⟩
      · rintro ⟨a, t, h1, h2, rfl⟩
        cases t with
        | nil => simpa using h1
        | cons x xs => exact h2.elim
    | cons r rs ih =>
      intro acc l
      rw [List.foldl_cons, ih]
      constructor
      · rintro ⟨a, t, h1, h2, rfl⟩
        obtain ⟨o, ho, h1⟩ := List.mem_flatMap.mp h1
        obtain ⟨e, he, rfl⟩ := List.mem_map.mp h1
        exact ⟨o, e :: t, ho, ⟨he, h2⟩, by simp⟩
      · rintro ⟨a, t, h1, h2, rfl⟩
        cases t with
        | nil => exact h2.elim
        | cons x xs => exact ⟨a ++ [x], xs, List.mem_flatMap.mpr ⟨a, h1, List.mem_map.mpr ⟨x, h2.1, rfl⟩⟩, h2.2, by simp⟩
  unfold prod
  rw [gen]
  constructor
  · rintro ⟨a, t, h1, h2, rfl⟩
    have : a = [] := by simpa using h1
    subst this
    exact h2
  · exact fun h => ⟨[], l, by simp, h, rfl⟩
theorem Pick.len {α : Type} : ∀ {rows : List (List α)} {l : List α}, Pick rows l → l.length = rows.length
  | [], [], _ => rfl
  | _ :: _, _ :: _, h => congrArg (· + 1) (Pick.len h.2)
  | [], _ :: _, h => h.elim
  | _ :: _, [], h => h.elim
theorem Pick.imp {α β : Type} {f g : β → List α} : ∀ {xs : List β} {l : List α}, Pick (xs.map f) l → (∀ x ∈ xs, ∀ y ∈ f x, y ∈ g x) → Pick (xs.map g) l
  | [], [], _, _ => trivial
  | x :: xs, y :: l, h, q => ⟨q x (List.mem_cons_self ..) y h.1, Pick.imp h.2 fun z hz => q z (List.mem_cons_of_mem _ hz)⟩
  | [], _ :: _, h, _ => h.elim
  | _ :: _, [], h, _ => h.elim
/-- each item with its pick -/
theorem Pick.zip {α β : Type} {f : β → List α} : ∀ {xs : List β} {l : List α}, Pick (xs.map f) l → ∀ r ∈ xs.zip l, r.2 ∈ f r.1
  | [], _, _, r, hr => by simp at hr
  | x :: xs, y :: l, h, r, hr => by
    rw [List.zip_cons_cons] at hr
    rcases List.mem_cons.mp hr with rfl | hr
    · exact h.1
    · exact Pick.zip h.2 r hr
  | _ :: _, [], h, _, _ => h.elim
theorem Pick.mk {α β : Type} {f : β → List α} {g : β → α} : ∀ {xs : List β}, (∀ x ∈ xs, g x ∈ f x) → Pick (xs.map f) (xs.map g)
  | [], _ => trivial
  | x :: xs, h => ⟨h x (List.mem_cons_self ..), Pick.mk fun z hz => h z (List.mem_cons_of_mem _ hz)⟩
theorem Pick.at {α : Type} : ∀ {rows : List (List α)} {l : List α} {i : Nat} {r : List α} {x : α}, Pick rows l → rows[i]? = some r → l[i]? = some x → x ∈ r
  | r :: rs, x :: xs, 0, _, _, h, e1, e2 => by
    simp only [List.getElem?_cons_zero, Option.some.injEq] at e1 e2
    subst e1 e2
    exact h.1
  | r :: rs, x :: xs, i + 1, _, _, h, e1, e2 => Pick.at (i := i) h.2 (by simpa using e1) (by simpa using e2)
  | [], _ , _, _, _, _, e1, _ => by simp at e1
  | _ :: _, [], _, _, _, _, _, e2 => by simp at e2
theorem Pick.of {α : Type} : ∀ {rows : List (List α)} {l : List α}, l.length = rows.length → (∀ (i : Nat) (r : List α) (x : α), rows[i]? = some r → l[i]? = some x → x ∈ r) → Pick rows l
  | [], [], _, _ => trivial
  | r :: rs, x :: xs, h, q => ⟨q 0 r x rfl rfl, Pick.of (by simpa using h) fun i r' x' e1 e2 => q (i + 1) r' x' (by simpa using e1) (by simpa using e2)⟩
  | [], _ :: _, h, _ => by simp at h
  | _ :: _, [], h, _ => by simp at h
theorem zip_at {α β : Type} {as : List α} {bs : List β} {i : Nat} {r : α × β} (h : (as.zip bs)[i]? = some r) : as[i]? = some r.1 ∧ bs[i]? = some r.2 := List.getElem?_zip_eq_some.mp h
theorem zip_at' {α β : Type} {as : List α} {bs : List β} {i : Nat} {a : α} {b : β} (h1 : as[i]? = some a) (h2 : bs[i]? = some b) : (as.zip bs)[i]? = some (a, b) := List.getElem?_zip_eq_some.mpr ⟨h1, h2⟩
theorem prod_nodup {α : Type} {rows : List (List α)} (h : ∀ r ∈ rows, r.Nodup) : (prod rows).Nodup := by
  have key : ∀ t : Nat, t ≤ rows.length → (prod (rows.take t)).Nodup := by
    intro t
    induction t with
    | zero => intro _; simp [prod]
    | succ t ih =>
      intro ht
      have hlt : t < rows.length := ht
      rw [prod_take (List.getElem?_eq_getElem hlt)]
      unfold List.Nodup
      rw [List.pairwise_flatMap]
      refine ⟨fun a _ => ?_, ?_⟩
      · rw [List.pairwise_map]
        exact (h _ (List.getElem_mem hlt)).imp fun {x y} ne e => ne (by simpa using List.append_cancel_left e)
      · refine (ih (Nat.le_of_lt hlt)).imp fun {x y} ne u hu v hv e => ?_
        obtain ⟨p, _, rfl⟩ := List.mem_map.mp hu
        obtain ⟨q, _, rfl⟩ := List.mem_map.mp hv
        exact ne (List.append_inj_left' e rfl)
  have := key rows.length (Nat.le_refl _)
  rwa [List.take_length] at this
theorem zip_fst {α β : Type} : ∀ {l : List α} {m : List β}, l.length ≤ m.length → (l.zip m).map (·.1) = l
  | [], _, _ => rfl
  | a :: l, [], h => by simp at h
  | a :: l, b :: m, h => by
    rw [List.zip_cons_cons, List.map_cons, zip_fst (by simpa using h)]
/-! ### the states there are -/
def placesOf (h : Harb) (s : Ship) : List Place := [.far, .sea, .gone] ++ (List.range h.berths.length).flatMap fun (b : Nat) => (List.range (s.stay.toNat + 1)).map fun (l : Nat) => .lies b l
theorem mem_places {h : Harb} {s : Ship} {p : Place} : p ∈ placesOf h s ↔ (lieB p = false) ∨ ∃ b l : Nat, p = .lies b l ∧ b < h.berths.length ∧ l ≤ s.stay.toNat := by
  unfold placesOf
  rw [List.mem_append, List.mem_flatMap]
  constructor
  · rintro (q | ⟨b, hb, q⟩)
    · left
      simp only [List.mem_cons, List.not_mem_nil, or_false] at q
      rcases q with rfl | rfl | rfl <;> rfl
    · obtain ⟨l, hl, rfl⟩ := List.mem_map.mp q
      exact .inr ⟨b, l, rfl, List.mem_range.mp hb, Nat.le_of_lt_succ (List.mem_range.mp hl)⟩
  · rintro (q | ⟨b, l, rfl, hb, hl⟩)
    · left
      cases p with
      | lies b l => exact nomatch (q : true = false)
      | _ => simp
    · exact .inr ⟨b, List.mem_range.mpr hb, List.mem_map.mpr ⟨l, List.mem_range.mpr (Nat.lt_succ_of_le hl), rfl⟩⟩
theorem places_len {h : Harb} {s : Ship} (hb : h.berths.length ≤ 2) (hs : s.stay ≤ 2) : (placesOf h s).length ≤ 10 := by
  unfold placesOf
  rw [List.length_append]
  have := len_flat (b := 3) (l := List.range h.berths.length) (f := fun (b : Nat) => (List.range (s.stay.toNat + 1)).map fun (l : Nat) => Place.lies b l) fun x _ => by rw [List.length_map, List.length_range]; omega
  rw [List.length_range] at this
  simp only [List.length_cons, List.length_nil]
  omega
def univ (h : Harb) (ships : List Ship) : List State := (List.range (h.last + 1).toNat).flatMap fun (t : Nat) => (prod (ships.map (placesOf h))).map fun ps => ((t : Int), ps)
theorem mem_univ {h : Harb} {ships : List Ship} {s : State} : s ∈ univ h ships ↔ 0 ≤ s.1 ∧ s.1 ≤ h.last ∧ Pick (ships.map (placesOf h)) s.2 := by
  unfold univ
  rw [List.mem_flatMap]
  constructor
  · rintro ⟨t, ht, q⟩
    obtain ⟨ps, hp, rfl⟩ := List.mem_map.mp q
    have := List.mem_range.mp ht
    exact ⟨by show (0 : Int) ≤ (t : Int); omega, by show (t : Int) ≤ h.last; omega, mem_prod.mp hp⟩
  · rintro ⟨h1, h2, h3⟩
    obtain ⟨t, ps⟩ := s
    have h1' : 0 ≤ t := h1
    have h2' : t ≤ h.last := h2
    refine ⟨t.toNat, List.mem_range.mpr (by omega), List.mem_map.mpr ⟨ps, mem_prod.mpr h3, ?_⟩⟩
    show ((t.toNat : Int), ps) = (t, ps)
    rw [Int.toNat_of_nonneg h1']
section
variable {h : Harb} {ships : List Ship} {spans : List Int}
theorem univ_len (ok : Ok h ships spans) : (univ h ships).length ≤ 7000 := by
  unfold univ
  have := len_flat (b := 1000) (l := List.range (h.last + 1).toNat) (f := fun (t : Nat) => (prod (ships.map (placesOf h))).map fun ps => ((t : Int), ps)) fun x _ => by
    rw [List.length_map]
    refine prod_all (fun r hr => ?_) (by rw [List.length_map]; have := ok.nships2; omega)
    obtain ⟨s, hs, rfl⟩ := List.mem_map.mp hr
    exact places_len ok.berths2 (ok.stay s hs).2
  rw [List.length_range] at this
  have := ok.last2
  have := ok.last
  omega
theorem comeRow_sub {hour : Int} {s : Ship} {n : Int} {p q : Place} (hq : q ∈ comeRow hour s n p) : q = p ∨ lieB q = false := by
  unfold comeRow at hq
  split at hq
  · exact .inl (by simpa using hq)
  · split at hq
    · right
      have : q = .sea := by simpa using hq
      subst this; rfl
    · right
      simp only [List.mem_cons, List.not_mem_nil, or_false] at hq
      rcases hq with rfl | rfl <;> rfl
theorem comeRow_nodup {hour : Int} {s : Ship} {n : Int} {p : Place} : (comeRow hour s n p).Nodup := by
  unfold comeRow
  split
  · simp
  · split <;> simp
theorem map_at {α β : Type} {f : α → β} {l : List α} {i : Nat} {y : β} (h : (l.map f)[i]? = some y) : ∃ x, l[i]? = some x ∧ y = f x := by
  rw [List.getElem?_map] at h
  obtain ⟨x, h1, h2⟩ := Option.map_eq_some_iff.mp h
  exact ⟨x, h1, h2.symm⟩
theorem map_at' {α β : Type} {f : α → β} {l : List α} {i : Nat} {x : α} (h : l[i]? = some x) : (l.map f)[i]? = some (f x) := by rw [List.getElem?_map, h]; rfl
theorem at_lt {α : Type} {l : List α} {i : Nat} {x : α} (h : l[i]? = some x) : i < l.length := (List.getElem?_eq_some_iff.mp h).1
theorem at_of {α : Type} {l : List α} {i : Nat} (h : i < l.length) : ∃ x, l[i]? = some x := ⟨_, List.getElem?_eq_getElem h⟩
theorem come_iff {hour : Int} {places qs : List Place} (h1 : spans.length = ships.length) (h2 : places.length = ships.length) :
    qs ∈ come ships spans hour places ↔ qs.length = ships.length ∧ ∀ (i : Nat) (s : Ship) (n : Int) (p q : Place), ships[i]? = some s → spans[i]? = some n → places[i]? = some p → qs[i]? = some q → q ∈ comeRow hour s n p := by
  unfold come
  rw [mem_prod]
  have hl : ((ships.zip (spans.zip places)).map fun r => comeRow hour r.1 r.2.1 r.2.2).length = ships.length := by rw [List.length_map, List.length_zip, List.length_zip]; omega
  constructor
  · intro h
    refine ⟨by rw [h.len, hl], fun i s n p q a b c d => ?_⟩
    exact h.at (map_at' (zip_at' a (zip_at' b c))) d
  · rintro ⟨e, h⟩
    refine Pick.of (by rw [e, hl]) fun i r x a b => ?_
    obtain ⟨y, hy, rfl⟩ := map_at a
    obtain ⟨c1, c2⟩ := zip_at hy
    obtain ⟨c3, c4⟩ := zip_at c2
    exact h i _ _ _ _ c1 c3 c4 b
theorem pick_come {hour : Int} {places qs : List Place} (hp : Pick (ships.map (placesOf h)) places) (hs : spans.length = ships.length) (hq : qs ∈ come ships spans hour places) : Pick (ships.map (placesOf h)) qs := by
  have hl := hp.len
  rw [List.length_map] at hl
  obtain ⟨h1, h2⟩ := (come_iff hs hl).mp hq
  refine Pick.of (by rw [h1, List.length_map]) fun i r q a b => ?_
  obtain ⟨s, hs', rfl⟩ := map_at a
  obtain ⟨n, hn⟩ := at_of (l := spans) (i := i) (by rw [hs]; exact at_lt hs')
  obtain ⟨p, hp'⟩ := at_of (l := places) (i := i) (by rw [hl]; exact at_lt hs')
  rcases comeRow_sub (h2 i s n p q hs' hn hp' b) with rfl | e
  · exact hp.at a hp'
  · exact mem_places.mpr (.inl e)
theorem choice_mem {t : Int} {s : Ship} {p : Place} {u : Int} (hu : u ∈ choices h t s p) : u = -1 ∨ (u = -2 ∧ readyOut p = true ∧ s.dr ≤ depthAt h t) ∨ (p = .sea ∧ s.dr ≤ depthAt h t ∧ ∃ b : Nat, u = b ∧ b < h.berths.length ∧ s.len ≤ h.berths.getD b 0) := by
  unfold choices at hu
  split at hu
  · exact .inl (by simpa using hu)
  · rename_i hd
    have hd' : s.dr ≤ depthAt h t := by omega
    cases p with
    | sea =>
      rcases List.mem_cons.mp hu with e | hu
      · exact .inl e
      · obtain ⟨b, hb, rfl⟩ := List.mem_map.mp hu
        obtain ⟨h1, h2⟩ := List.mem_filter.mp hb
        exact .inr (.inr ⟨rfl, hd', b, rfl, List.mem_range.mp h1, of_decide_eq_true h2⟩)
    | lies b l =>
      have hu' : u ∈ (if l = 0 then [-2, -1] else [-1] : List Int) := hu
      split at hu'
      · rename_i hl
        simp only [List.mem_cons, List.not_mem_nil, or_false] at hu'
        rcases hu' with e | e
        · exact .inr (.inl ⟨e, decide_eq_true hl, hd'⟩)
        · exact .inl e
      · exact .inl (by simpa using hu')
    | far => exact .inl (by simpa using hu)
    | gone => exact .inl (by simpa using hu)
theorem behind_mem {t : Int} {s : Ship} {p : Place} {u : Int} (hs : 0 ≤ s.stay) (hp : p ∈ placesOf h s) (hu : u ∈ choices h t s p) : placeBehind s p u ∈ placesOf h s := by
  unfold placeBehind
  split
  · exact mem_places.mpr (.inl rfl)
  · rename_i h2
    split
    · rename_i h3
      rcases choice_mem hu with e | ⟨e, _⟩ | ⟨_, _, b, e, hb, _⟩
      · omega
      · omega
      · subst e
        exact mem_places.mpr (.inr ⟨b, s.stay.toNat, by rw [Int.toNat_of_nonneg hs], hb, Nat.le_refl _⟩)
    · cases p with
      | lies b l =>
        rcases mem_places.mp hp with q | ⟨b', l', e, hb, hl⟩
        · cases q
        · injection e with e1 e2
          subst e1 e2
          refine mem_places.mpr (.inr ⟨b', l' - 1, ?_, hb, by omega⟩)
          show Place.lies (b' : Int) (max 0 ((l' : Int) - 1)) = _
          congr 1
          omega
      | far => exact hp
      | sea => exact hp
      | gone => exact hp
theorem moves_pick {s : State} {m : List Int} (hm : m ∈ movesOf h ships s) (hl : s.2.length = ships.length) : m.length = ships.length ∧ ∀ (i : Nat) (x : Ship) (p : Place) (u : Int), ships[i]? = some x → s.2[i]? = some p → m[i]? = some u → u ∈ choices h s.1 x p := by
  have h1 := mem_prod.mp (List.mem_filter.mp hm).1
  refine ⟨?_, fun i x p u a b c => h1.at (map_at' (zip_at' a b)) c⟩
  rw [h1.len]
  unfold choiceRows
  rw [List.length_map, List.length_zip]
  omega
theorem later_at {places : List Place} {m : List Int} {i : Nat} {q : Place} (h : (laterOf ships places m)[i]? = some q) : ∃ x p u, ships[i]? = some x ∧ places[i]? = some p ∧ m[i]? = some u ∧ q = placeBehind x p u := by
  obtain ⟨r, hr, rfl⟩ := map_at h
  obtain ⟨a, b⟩ := zip_at hr
  obtain ⟨c, d⟩ := zip_at b
  exact ⟨_, _, _, a, c, d, rfl⟩
theorem later_len {places : List Place} {m : List Int} (h1 : places.length = ships.length) (h2 : m.length = ships.length) : (laterOf ships places m).length = ships.length := by
  unfold laterOf
  rw [List.length_map, List.length_zip, List.length_zip]
  omega
theorem later_pick (ok : Ok h ships spans) {s : State} {m : List Int} (hp : Pick (ships.map (placesOf h)) s.2) (hm : m ∈ movesOf h ships s) : Pick (ships.map (placesOf h)) (laterOf ships s.2 m) := by
  have hl := hp.len
  rw [List.length_map] at hl
  obtain ⟨h1, h2⟩ := moves_pick hm hl
  refine Pick.of (by rw [later_len hl h1, List.length_map]) fun i r q a b => ?_
  obtain ⟨x, p, u, hx, hp', hu, rfl⟩ := later_at b
  obtain ⟨x', hx', rfl⟩ := map_at a
  rw [hx] at hx'
  cases hx'
  refine behind_mem (by have := ok.stay x (List.mem_of_getElem? hx); omega) (hp.at a hp') (h2 i x p u hx hp' hu)
theorem behind_univ (ok : Ok h ships spans) {s k : State} {m : List Int} (hs : s ∈ univ h ships) (hm : m ∈ movesOf h ships s) (hk : k ∈ statesBehind h ships spans s m) : k ∈ univ h ships ∧ k.1 = s.1 + 1 := by
  obtain ⟨h1, h2, h3⟩ := mem_univ.mp hs
  unfold statesBehind at hk
  split at hk
  · cases hk
  · rename_i hn
    obtain ⟨ps, hps, rfl⟩ := List.mem_map.mp hk
    have : s.1 ≠ h.last := fun e => hn (.inr e)
    exact ⟨mem_univ.mpr ⟨by show 0 ≤ s.1 + 1; omega, by show s.1 + 1 ≤ h.last; omega, pick_come (later_pick ok h3 hm) ok.nspans hps⟩, rfl⟩
theorem kids_univ (ok : Ok h ships spans) : ∀ s ∈ univ h ships, ∀ k ∈ kidsOf h ships spans s, k ∈ univ h ships := fun s hs k hk => by
  obtain ⟨m, hm, hk⟩ := List.mem_flatMap.mp hk
  exact (behind_univ ok hs hm hk).1
theorem first_univ (ok : Ok h ships spans) : ∀ s ∈ firstStates ships spans, s ∈ univ h ships := fun s hs => by
  obtain ⟨ps, hps, rfl⟩ := List.mem_map.mp hs
  refine mem_univ.mpr ⟨Int.le_refl _, ok.last, pick_come ?_ ok.nspans hps⟩
  refine Pick.of (by simp) fun i r q a b => ?_
  rw [List.getElem?_replicate] at b
  split at b
  · cases b
    obtain ⟨x, _, rfl⟩ := map_at a
    exact mem_places.mpr (.inl rfl)
  · cases b
theorem first_nodup : (firstStates ships spans).Nodup := by
  unfold firstStates
  unfold List.Nodup
  rw [List.pairwise_map]
  have : (come ships spans 0 (List.replicate ships.length .far)).Nodup := prod_nodup fun r hr => by
    obtain ⟨q, _, rfl⟩ := List.mem_map.mp hr
    exact comeRow_nodup
  exact this.imp fun ne e => ne (by simpa using e)
theorem wi_first (ok : Ok h ships spans) : WI (kidsOf h ships spans) (univ h ships) (firstStates ships spans, firstStates ships spans) :=
  ⟨first_nodup, first_univ ok, fun _ h => h, fun _ h => .inl h⟩
/-- what is reached, in the order of finding -/
theorem reach (ok : Ok h ships spans) : ∃ N, (iterW (kidsOf h ships spans) (firstStates ships spans, firstStates ships spans) N).1 = [] ∧ ∀ t, t < N → (iterW (kidsOf h ships spans) (firstStates ships spans, firstStates ships spans) t).1 ≠ [] := (wi_first ok).ends (kids_univ ok)
structure Reached (h : Harb) (ships : List Ship) (spans : List Int) (f : List State) : Prop where
  inU : ∀ s ∈ f, s ∈ univ h ships
  first : ∀ s ∈ firstStates ships spans, s ∈ f
  closed : ∀ s ∈ f, ∀ m ∈ movesOf h ships s, ∀ k ∈ statesBehind h ships spans s m, k ∈ f
  nd : f.Nodup
theorem reached_of (ok : Ok h ships spans) {N : Nat} (hN : (iterW (kidsOf h ships spans) (firstStates ships spans, firstStates ships spans) N).1 = []) : Reached h ships spans (iterW (kidsOf h ships spans) (firstStates ships spans, firstStates ships spans) N).2 := by
  obtain ⟨I, sub⟩ := (wi_first ok).all (kids_univ ok) N
  refine ⟨I.inU, sub, fun s hs m hm k hk => ?_, I.nd⟩
  rcases I.done s hs with q | q
  · rw [hN] at q; cases q
  · exact q k (List.mem_flatMap.mpr ⟨m, hm, hk⟩)
/-! ### the numbers -/
theorem sureBy_congr {s : State} {m : List Int} {v w : State → Option Int} (hv : ∀ k ∈ statesBehind h ships spans s m, v k = w k) : sureBy h ships spans s m v = sureBy h ships spans s m w := by
  unfold sureBy
  rw [List.map_congr_left hv]
theorem val_eq (ok : Ok h ships spans) {s : State} (hs : s ∈ univ h ships) : val h ships spans s = bestBy h ships spans s (val h ships spans) := by
  obtain ⟨h1, h2, h3⟩ := mem_univ.mp hs
  unfold val
  have e : (h.last - s.1 + 1).toNat = (h.last - s.1).toNat + 1 := by omega
  rw [e]
  show bestBy h ships spans s (valN h ships spans (h.last - s.1).toNat) = _
  unfold bestBy
  congr 2
  refine List.map_congr_left fun m hm => sureBy_congr fun k hk => ?_
  obtain ⟨_, e2⟩ := behind_univ ok hs hm hk
  rw [e2]
  congr 1
  omega
/-- the states in the order in which they get their numbers -/
def order (f : List State) : List State := (f.mergeSort (dataLe false eState)).reverse
theorem order_mem {f : List State} {s : State} : s ∈ order f ↔ s ∈ f := by
  unfold order
  rw [List.mem_reverse]
  exact (List.mergeSort_perm f _).mem_iff
theorem order_nodup {f : List State} (nd : f.Nodup) : (order f).Nodup := by
  unfold order List.Nodup
  rw [List.pairwise_reverse]
  exact ((List.mergeSort_perm f (dataLe false eState)).nodup_iff.mpr nd).imp fun h e => h e.symm
theorem order_len {f : List State} : (order f).length = f.length := by
  unfold order
  rw [List.length_reverse, List.length_mergeSort]
theorem order_at {f : List State} {i j : Nat} {s t : State} (hi : (order f)[i]? = some s) (hj : (order f)[j]? = some t) (hij : i ≤ j) : t.1 ≤ s.1 := by
  have hp : (order f).Pairwise fun a b => b.1 ≤ a.1 := by
    unfold order
    rw [List.pairwise_reverse]
    exact sorted_hours f
  by_cases e : i = j
  · subst e
    rw [hi] at hj
    cases hj
    exact Int.le_refl _
  · obtain ⟨a1, a2⟩ := List.getElem?_eq_some_iff.mp hi
    obtain ⟨b1, b2⟩ := List.getElem?_eq_some_iff.mp hj
    have := List.pairwise_iff_getElem.mp hp i j a1 b1 (by omega)
    rw [a2, b2] at this
    exact this
theorem order_before {f : List State} (R : Reached h ships spans f) (ok : Ok h ships spans) {t : Nat} {s k : State} {m : List Int} (ht : (order f)[t]? = some s) (hm : m ∈ movesOf h ships s) (hk : k ∈ statesBehind h ships spans s m) : k ∈ (order f).take t := by
  have sf : s ∈ f := order_mem.mp (List.mem_of_getElem? ht)
  have kf : k ∈ order f := order_mem.mpr (R.closed s sf m hm k hk)
  obtain ⟨j, hj, e⟩ := List.mem_iff_getElem.mp kf
  have hj' : (order f)[j]? = some k := by rw [List.getElem?_eq_getElem hj, e]
  have ek := (behind_univ ok (R.inU s sf) hm hk).2
  by_cases lt : j < t
  · rw [List.mem_take_iff_getElem]
    exact ⟨j, by omega, e⟩
  · have := order_at ht hj' (by omega)
    omega
end
end TW
namespace TW
open PySem PySem.Spec PyProof.Rows L2
noncomputable def foundN {h : Harb} {ships : List Ship} {spans : List Int} (ok : Ok h ships spans) : Nat := Classical.choose (reach ok)
noncomputable def foundF {h : Harb} {ships : List Ship} {spans : List Int} (ok : Ok h ships spans) : List State := (iterW (kidsOf h ships spans) (firstStates ships spans, firstStates ships spans) (foundN ok)).2
theorem found_ok {h : Harb} {ships : List Ship} {spans : List Int} (ok : Ok h ships spans) : Reached h ships spans (foundF ok) := reached_of ok (Classical.choose_spec (reach ok)).1
theorem found_len {h : Harb} {ships : List Ship} {spans : List Int} (ok : Ok h ships spans) : (foundF ok).length ≤ 7000 := Nat.le_trans ((wi_first ok).small _ (kids_univ ok)) (univ_len ok)
theorem push_small {U : List State} {w f xs : List State} (nd : f.Nodup) (hf : ∀ s ∈ f, s ∈ U) (hx : ∀ s ∈ xs, s ∈ U) : (push xs (w, f)).2.length ≤ U.length ∧ (push xs (w, f)).1.length ≤ w.length + U.length := by
  obtain ⟨⟨n, a1, a2, a3⟩, a4, a5⟩ := push_sub xs (w, f)
  have l : (push xs (w, f)).2.length ≤ U.length := nodup_len (a4 nd) fun s hs => by
    rw [a2] at hs
    rcases List.mem_append.mp hs with q | q
    · exact hf s q
    · exact hx s (a3 s q)
  refine ⟨l, ?_⟩
  rw [a2, List.length_append] at l
  rw [a1, List.length_append]
  show w.length + n.length ≤ _
  omega
theorem push_app {xs ys : List State} {wf : List State × List State} : push (xs ++ ys) wf = push ys (push xs wf) := List.foldl_append
theorem push_one {xs : List State} {b : State} {wf : List State × List State} : push (xs ++ [b]) wf = push1 (push xs wf) b := push_app
def relReached (ds : List PyData) (d : PyData) : Prop := ∃ (h : Harb) (ships : List Ship) (spans : List Int) (ok : Ok h ships spans), ds = [eHarb h, eShips ships, eInts spans] ∧ d = .list (((foundF ok).mergeSort (PySem.W.dataLe false eState)).map eState)
abbrev sReached : Stmt := topS 20
abbrev nReached : List Str := ["harbour", "ships", "spans", "waiting", "state", "found", "move", "behind"]
theorem scReached : FnScope nReached ["harbour", "ships", "spans"] (defScope sReached) := ⟨rfl, rfl, rfl, by decide +kernel, rfl, by decide +kernel, by decide +kernel⟩
theorem univ_len2 {h : Harb} {ships : List Ship} {spans : List Int} (ok : Ok h ships spans) {s : State} (hs : s ∈ univ h ships) : s.2.length ≤ 3 := by
  have := (mem_univ.mp hs).2.2.len
  rw [List.length_map] at this
  have := ok.nships2
  omega
def gW (h : Harb) (ships : List Ship) (spans : List Int) (s4 : Slot) (s6 s7 : Slot) (wf : List State × List State) : SC := [.im (eHarb h), .im (eShips ships), .im (eInts spans), .mu (wf.1.map eState), s4, .dk (wf.2.map fun s => (eState s, .bool true)), s6, s7]
theorem eb_mu' {ι : Type} {W : Wd} {F : ι → Cx} {k : Nat} {Γ : SC} {ds : List PyData} {p : Pos} {nm : Str} (i : Nat) (fm : Fm W k F) (h : Γ[i]? = some (.mu ds)) (hi : ∀ j, (F j).N[i]? = some nm := by exact fun _ => rfl) (hv : ∀ j, Vis (F j).env.scope nm := by first | exact fun _ => .inl rfl | exact fun _ => .inr (.inl rfl)) (he : ∀ j wh, isTrue (.Name nm p) (F j).env wh = (do let v ← wh; standAt p; holding [v] (truthy v)) := by exact fun _ _ => rfl)
    (hd : (nm == ("__debug__" : Str)) = false := by decide) (hcd : (nm == ("__classdict__" : Str)) = false := by decide) : EB W F (.Name nm p) Γ (!ds.isEmpty) := eb_mu i fm hi hv h he hd hcd
theorem ok_reached {W : Wd} {f : Addr} {fd : FuncData} (F : Fun W.K "reached" "reached" sReached f fd) (hm : W.mg "reached" = some (.ref f)) (bi : Binds W.K fd ["harbour", "ships", "spans"] []) (g : Gs W)
    (DF : Def W 3 "first_states" ["ships", "spans"] (spL W relFirst)) (DM : Def W 3 "moves_of" ["harbour", "ships", "state"] (spD W relMoves)) (DS : Def W 3 "states_behind" ["harbour", "ships", "spans", "state", "move"] (spD W relStates)) : Def W 4 "reached" ["harbour", "ships", "spans"] (spD W relReached) := by
  refine ok_def F scReached hm bi (fun ds d h => ?_) fun ds d h cdv A outer s H E fm => ?_
  · obtain ⟨h, ships, spans, ok, rfl, _⟩ := h; rfl
  · obtain ⟨h, ships, spans, ok, rfl, rfl⟩ := h
    have hs3 : ships.length ≤ 3 := by have := ok.nships2; omega
    have hb8 : h.berths.length ≤ 8 := by have := ok.berths2; omega
    have hu := univ_len ok
    have hfl : (firstStates ships spans).length ≤ 1000 := by unfold firstStates; rw [List.length_map]; exact come_len hs3
    have big : (100000 : Nat) ≤ sizeLine := by decide
    obtain ⟨hN1, hN2⟩ := Classical.choose_spec (reach ok)
    have hN1 : (iterW (kidsOf h ships spans) (firstStates ships spans, firstStates ships spans) (foundN ok)).1 = [] := hN1
    have hN2 : ∀ t, t < foundN ok → (iterW (kidsOf h ships spans) (firstStates ships spans, firstStates ships spans) t).1 ≠ [] := hN2
    refine bx_cons (putL 3 fm (callL fm DF (ea_cons (v 1 rfl) (ea_cons (v 2 rfl) ea_nil)) ⟨ships, spans, rfl, ok.nships, hs3, rfl⟩)) ?_
    refine bx_cons (sx_newDc 5 3 4 [("state", 4)] fm (fun _ => rfl) (fun _ => rfl) rfl (fun _ => rfl) (ix_lst fm (v 3 rfl)) (fun _ => blk_ok rfl) (p1 4 (fm.blk _)) (by decide) (fun u _ => v 4 rfl) (fun u _ => ex_bl) (fun u hu => ?_) ?_ (by rw [List.length_map]; omega)) ?_
    · obtain ⟨s, _, rfl⟩ := List.mem_map.mp hu
      exact ⟨isKey_state s, _, rfl⟩
    · unfold List.Nodup
      rw [List.pairwise_map]
      exact first_nodup.imp fun ne e => ne (eState_inj e)
    rw [List.map_map]
    refine bx_cons (sx_while (fun t => gW h ships spans .un .un .un (iterW (kidsOf h ships spans) (firstStates ships spans, firstStates ships spans) t)) (foundN ok) rfl fm (fun t ht => ?_) (fun t ht => ?_) ?_) (bx_one (sx_ret ?_))
    · refine (eb_mu' 3 fm rfl).is ?_
      have := hN2 t ht
      cases hw : (iterW (kidsOf h ships spans) (firstStates ships spans, firstStates ships spans) t).1 with
      | nil => exact absurd hw this
      | cons x xs => rfl
    · -- the body
      obtain ⟨I, _⟩ := (wi_first ok).all (kids_univ ok) t
      have hws := (wi_first ok).wsmall (kids_univ ok) t
      have hne := hN2 t ht
      show BX W _ _ (gW h ships spans .un .un .un (iterW (kidsOf h ships spans) (firstStates ships spans, firstStates ships spans) t)) (.nx (gW h ships spans .un .un .un (stepW (kidsOf h ships spans) (iterW (kidsOf h ships spans) (firstStates ships spans, firstStates ships spans) t))))
      generalize hwf : iterW (kidsOf h ships spans) (firstStates ships spans, firstStates ships spans) t = wf at I hws hne
      obtain ⟨w, fo⟩ := wf
      obtain ⟨w', s, rfl⟩ : ∃ w' s, w = w' ++ [s] := ⟨w.dropLast, w.getLast hne, (List.dropLast_concat_getLast hne).symm⟩
      have sU : s ∈ univ h ships := I.inU s (I.wait s (by show s ∈ w' ++ [s]; simp))
      have s3 := univ_len2 ok sU
      have est : stepW (kidsOf h ships spans) (w' ++ [s], fo) = push (kidsOf h ships spans s) (w', fo) := by
        unfold stepW
        show (match (w' ++ [s]).getLast? with | none => _ | some s => _) = _
        rw [List.getLast?_concat]
        show push _ ((w' ++ [s]).dropLast, fo) = _
        rw [List.dropLast_concat]
      rw [est]
      have hw' : w'.length ≤ 15000 := by
        have : (w' ++ [s]).length ≤ 2 * ((univ h ships).length - (firstStates ships spans).length) + (firstStates ships spans).length := by
          have a : 2 * ((univ h ships).length - fo.length) + (w' ++ [s]).length ≤ 2 * ((univ h ships).length - (firstStates ships spans).length) + (firstStates ships spans).length := hws
          omega
        rw [List.length_append, List.length_cons, List.length_nil] at this
        omega
      have em : (w' ++ [s]).map eState = w'.map eState ++ [eState s] := by rw [List.map_append]; rfl
      unfold gW
      show BX W _ _ [.im (eHarb h), .im (eShips ships), .im (eInts spans), .mu ((w' ++ [s]).map eState), .un, .dk (fo.map fun s => (eState s, .bool true)), .un, .un] _
      rw [em]
      refine bx_cons (sx_pop 3 4 fm (fun _ => rfl) (fun _ => .inl rfl) (fun _ => rfl) (fun _ => .inl rfl) (fun _ => .inr rfl) rfl) ?_
      refine bx_wk (Γ2 := gW h ships spans (.im (eState s)) .un .un (push (kidsOf h ships spans s) (w', fo))) ?_ (.same (.same (.same (.same (.un (.same (.same (.same .nil))))))))
      refine bx_one ((sx_forL (movesOf h ships s) eMove (fun u => gW h ships spans (.im (eState s)) .un .un (push (((movesOf h ships s).take u).flatMap fun m => statesBehind h ships spans s m) (w', fo))) rfl
        (ix_lst fm (call fm DM (ea_cons (v 0 rfl) (ea_cons (v 1 rfl) (ea_cons (v 4 rfl) ea_nil))) ⟨h, ships, s, rfl, ok.depths, hb8, hs3, s3, rfl⟩)) fm (p1 6 fm) (fun u m hmu => ?_)).is (by rw [List.take_length]; rfl))
      have hmm : m ∈ movesOf h ships s := List.mem_of_getElem? hmu
      refine bx_wk (Γ2 := gW h ships spans (.im (eState s)) (.im (eMove m)) .un (push (((movesOf h ships s).take (u + 1)).flatMap fun m => statesBehind h ships spans s m) (w', fo))) ?_ (.same (.same (.same (.same (.same (.same (.un (.same .nil))))))))
      rw [flat_take hmu]
      have preU : ∀ x ∈ (((movesOf h ships s).take u).flatMap fun m => statesBehind h ships spans s m), x ∈ univ h ships := fun x hx => by
        obtain ⟨m', hm', hx⟩ := List.mem_flatMap.mp hx
        exact (behind_univ ok sU (List.mem_of_mem_take hm') hx).1
      generalize hpre : (((movesOf h ships s).take u).flatMap fun m => statesBehind h ships spans s m) = pre at preU
      refine bx_one ((sx_forL (statesBehind h ships spans s m) eState (fun q => gW h ships spans (.im (eState s)) (.im (eMove m)) .un (push (pre ++ (statesBehind h ships spans s m).take q) (w', fo))) (by simp only [List.take_zero, List.append_nil]; rfl)
        (ix_lst fm (call fm DS (ea_cons (v 0 rfl) (ea_cons (v 1 rfl) (ea_cons (v 2 rfl) (ea_cons (v 4 rfl) (ea_cons (v 6 rfl) ea_nil))))) ⟨h, ships, spans, s, m, rfl, hs3, s3, rfl⟩)) fm (p1 7 fm) (fun q b hb => ?_)).is (by rw [List.take_length]))
      have bU : b ∈ univ h ships := (behind_univ ok sU hmm (List.mem_of_getElem? hb)).1
      have sm := push_small (w := w') I.nd I.inU (xs := pre ++ (statesBehind h ships spans s m).take q) fun x hx => by
        rcases List.mem_append.mp hx with hx | hx
        · exact preU x hx
        · exact (behind_univ ok sU hmm (List.mem_of_mem_take hx)).1
      have etk : pre ++ (statesBehind h ships spans s m).take (q + 1) = (pre ++ (statesBehind h ships spans s m).take q) ++ [b] := by rw [List.take_add_one, hb, List.append_assoc]; rfl
      rw [etk, push_one]
      have sm : (push (pre ++ (statesBehind h ships spans s m).take q) (w', fo)).2.length ≤ (univ h ships).length ∧ (push (pre ++ (statesBehind h ships spans s m).take q) (w', fo)).1.length ≤ w'.length + (univ h ships).length := sm
      generalize push (pre ++ (statesBehind h ships spans s m).take q) (w', fo) = wq at sm
      refine bx_wk (Γ2 := gW h ships spans (.im (eState s)) (.im (eMove m)) (.im (eState b)) (push1 wq b)) ?_ (.same (.same (.same (.same (.same (.same (.same (.un .nil))))))))
      refine bx_one (sx_if (eb_nin 5 fm (fun _ => rfl) (fun _ => .inl rfl) rfl (v 7 rfl) (isKey_state b)) (fun hc => ?_) (fun hc => ?_))
      · have hc : (!hasD (wq.2.map fun s => (eState s, PyData.bool true)) (eState b)) = true := hc
        rw [has_state (v := fun _ => .bool true)] at hc
        have hn : b ∉ wq.2 := by simpa using hc
        have e1 : push1 wq b = (wq.1 ++ [b], wq.2 ++ [b]) := by unfold push1; rw [if_neg hn]
        rw [e1]
        unfold gW
        simp only [List.map_append]
        refine bx_cons (sx_putD 5 fm (fun _ => rfl) (fun _ => .inl rfl) rfl (v 7 rfl) (isKey_state b) ((has_state (v := fun _ => .bool true)).trans (decide_eq_false hn)) (by rw [List.length_map]; omega) ex_bl) (bx_one (app 3 fm rfl (v 7 rfl) (by rw [List.length_map]; omega)))
      · have hc : (!hasD (wq.2.map fun s => (eState s, PyData.bool true)) (eState b)) = false := hc
        rw [has_state (v := fun _ => .bool true)] at hc
        have hn : b ∈ wq.2 := by simpa using hc
        have e1 : push1 wq b = wq := by unfold push1; rw [if_pos hn]
        rw [e1]
        exact bx_nil
    · refine (eb_mu' 3 fm rfl).is ?_
      rw [hN1]
      rfl
    · refine ex_sortDict 5 fm (fun _ => rfl) (fun _ => .inl rfl) (fun _ => rfl) g.sorted rfl ?_ (srt_state (by have := found_len ok; omega)) (fun b _ => key_state b)
      rw [List.map_map]
      rfl
end TW
namespace TW
open PySem PySem.Spec PyProof.Rows L2
theorem isN_opt (o : Option Int) : isN (eOpt o) = o.isNone := by cases o <;> rfl
theorem opt_ints : ∀ {l : List (Option Int)}, (l.filter fun o => !o.isNone).map eOpt = (l.filterMap id).map .int
  | [] => rfl
  | none :: l => by
    rw [List.filter_cons_of_neg (by simp), List.filterMap_cons_none rfl]
    exact opt_ints
  | some i :: l => by
    rw [List.filter_cons_of_pos (by simp), List.map_cons, opt_ints]
    rfl
theorem orD_opt (o : Option Int) : orD o .none = eOpt o := by cases o <;> rfl
/-! ### greatest -/
def relGreatest (ds : List PyData) (d : PyData) : Prop := ∃ l : List (Option Int), ds = [.list (l.map eOpt)] ∧ l.length ≤ 2000 ∧ d = eOpt (greatest l)
abbrev sGreatest : Stmt := topS 21
abbrev nGreatest : List Str := ["numbers", "number"]
theorem scGreatest : FnScope nGreatest ["numbers"] (defScope sGreatest) := ⟨rfl, rfl, rfl, by decide +kernel, rfl, by decide +kernel, by decide +kernel⟩
theorem sz2000 {n : Nat} (h : n ≤ 10000) : n ≤ sizeLine := Nat.le_trans h (by decide)
theorem ok_greatest {W : Wd} {f : Addr} {fd : FuncData} (F : Fun W.K "greatest" "greatest" sGreatest f fd) (hm : W.mg "greatest" = some (.ref f)) (bi : Binds W.K fd ["numbers"] []) (g : Gs W) : Def W 1 "greatest" ["numbers"] (spD W relGreatest) := by
  refine ok_def F scGreatest hm bi (fun ds d h => ?_) fun ds d h cdv A outer s H E fm => ?_
  · obtain ⟨l, rfl, _⟩ := h; rfl
  · obtain ⟨l, rfl, hl, rfl⟩ := h
    refine bx_ifr (c := l.any fun o => o.isNone) (eb_bl ((c_any fm g (bs := l.map fun o => o.isNone) ((lc [("number", 1)] (.nm 1) l eOpt (fun o => .bool o.isNone) fm (ix_lst fm (v 0 rfl)) (p1 1 (fm.blk _)) (fun o _ => (ex_cmp od_isN (v 1 rfl) ex_non).is (by rw [isN_opt])) (sz2000 (by omega))).ex.is (by rw [List.map_map]; rfl))).is (by rw [List.any_map]; rfl)) (fun _ _ => rfl)) (fun c => ?_) (fun c => ?_)
    · unfold greatest
      rw [if_pos c]
      exact bx_one (sx_ret ex_non)
    · unfold greatest
      rw [if_neg (by rw [c]; decide)]
      have e : l.map eOpt = (l.filterMap id).map .int := by
        rw [← opt_ints, List.filter_eq_self.mpr fun o ho => ?_]
        rw [List.any_eq_false] at c
        cases o with
        | none => exact absurd rfl (c none ho)
        | some i => rfl
      refine bx_one (sx_ret ((ex_maxD fm (fun _ => rfl) g.max ((v 0 rfl).is (by rw [e])) k0).is ?_))
      cases mostO (l.filterMap id) <;> rfl
/-! ### sure_by -/
def relSureBy (ds : List PyData) (kvs : List (PyData × PyData)) (d : PyData) : Prop := ∃ (h : Harb) (ships : List Ship) (spans : List Int) (s : State) (m : List Int) (vl : State → Option Int), ds = [eHarb h, eShips ships, eInts spans, eState s, eMove m] ∧ ships.length ≤ 3 ∧ s.2.length ≤ 3 ∧
  (∀ k ∈ statesBehind h ships spans s m, getDk kvs (eState k) = some (eOpt (vl k))) ∧ d = eOpt (sureBy h ships spans s m vl)
abbrev sSureBy : Stmt := topS 22
abbrev nSureBy : List Str := ["harbour", "ships", "spans", "state", "move", "numbers", "behind", "one"]
theorem scSureBy : FnScope nSureBy ["harbour", "ships", "spans", "state", "move", "numbers"] (defScope sSureBy) := ⟨rfl, rfl, rfl, by decide +kernel, rfl, by decide +kernel, by decide +kernel⟩
theorem behind_len {h : Harb} {ships : List Ship} {spans : List Int} {s : State} {m : List Int} (h3 : ships.length ≤ 3) : (statesBehind h ships spans s m).length ≤ 1000 := by
  unfold statesBehind
  split
  · exact Nat.zero_le _
  · rw [List.length_map]
    exact come_len h3
theorem ok_sureBy {W : Wd} {f : Addr} {fd : FuncData} (F : Fun W.K "sure_by" "sure_by" sSureBy f fd) (hm : W.mg "sure_by" = some (.ref f)) (bi : Binds W.K fd ["harbour", "ships", "spans", "state", "move", "numbers"] []) (g : Gs W)
    (DM : Def W 2 "misses" ["harbour", "state", "move"] (spD W relMisses)) (DS : Def W 3 "states_behind" ["harbour", "ships", "spans", "state", "move"] (spD W relStates)) (DG : Def W 1 "greatest" ["numbers"] (spD W relGreatest)) (DC : Def W 1 "cost_of_move" ["ships", "state", "move"] (spD W relCost)) :
    Def W 4 "sure_by" ["harbour", "ships", "spans", "state", "move", "numbers"] (spR W relSureBy) := by
  refine ok_defR F scSureBy hm bi (fun ds kvs d h => ?_) fun ds kvs d h cdv A outer s H E fm => ?_
  · obtain ⟨h, ships, spans, st, m, vl, rfl, _⟩ := h; rfl
  · obtain ⟨h, ships, spans, st, m, vl, rfl, h3, hp, hg, rfl⟩ := h
    refine bx_ifr (eb_bl (call fm DM (ea_cons (v 0 rfl) (ea_cons (v 3 rfl) (ea_cons (v 4 rfl) ea_nil))) ⟨h, st, m, rfl, hp, rfl⟩) (fun _ _ => rfl)) (fun c => ?_) (fun c => ?_)
    · unfold sureBy
      rw [if_pos c]
      exact bx_one (sx_ret ex_non)
    · unfold sureBy
      rw [if_neg (by rw [c]; decide)]
      refine bx_cons (put 6 fm (call fm DG (ea_cons ((lc [("one", 7)] (.nm 7) (statesBehind h ships spans st m) eState (fun k => eOpt (vl k)) fm
        (ix_lst fm (call fm DS (ea_cons (v 0 rfl) (ea_cons (v 1 rfl) (ea_cons (v 2 rfl) (ea_cons (v 3 rfl) (ea_cons (v 4 rfl) ea_nil))))) ⟨h, ships, spans, st, m, rfl, h3, hp, rfl⟩)) (p1 7 (fm.blk _))
        (fun k hk => ex_getD 5 (fm.blk _) (fun _ => rfl) (by first | exact fun _ => .inr (.inl rfl) | exact fun _ => .inr (.inr rfl)) (.inl rfl) (v 7 rfl) (isKey_state k) (hg k hk)) (sz1000 (behind_len h3))).ex) ea_nil) ⟨(statesBehind h ships spans st m).map vl, by rw [List.map_map]; rfl, by rw [List.length_map]; exact Nat.le_trans (behind_len h3) (by decide), rfl⟩)) ?_
      generalize greatest ((statesBehind h ships spans st m).map vl) = b
      refine bx_ifr (eb_cmp od_isN (v 6 rfl) ex_non) (fun c => ?_) (fun c => ?_)
      · rw [isN_opt] at c
        cases b with
        | none => exact bx_one (sx_ret ex_non)
        | some i => cases c
      · rw [isN_opt] at c
        cases b with
        | none => cases c
        | some i => exact bx_one (sx_ret (ex_op od_add (call fm DC (ea_cons (v 1 rfl) (ea_cons (v 3 rfl) (ea_cons (v 4 rfl) ea_nil))) ⟨ships, st, m, rfl, rfl⟩) (v 6 rfl)))
/-! ### sure_numbers -/
noncomputable def numsF {h : Harb} {ships : List Ship} {spans : List Int} (ok : Ok h ships spans) : List (PyData × PyData) := (order (foundF ok)).map fun s => (eState s, eOpt (val h ships spans s))
def relNumbers (ds : List PyData) (kvs : List (PyData × PyData)) : Prop := ∃ (h : Harb) (ships : List Ship) (spans : List Int) (ok : Ok h ships spans), ds = [eHarb h, eShips ships, eInts spans] ∧ kvs = numsF ok
abbrev sNumbers : Stmt := topS 23
abbrev nNumbers : List Str := ["harbour", "ships", "spans", "numbers", "state", "told", "move", "one"]
theorem scNumbers : FnScope nNumbers ["harbour", "ships", "spans"] (defScope sNumbers) := ⟨rfl, rfl, rfl, by decide +kernel, rfl, by decide +kernel, by decide +kernel⟩
theorem ok_numbers {W : Wd} {f : Addr} {fd : FuncData} (F : Fun W.K "sure_numbers" "sure_numbers" sNumbers f fd) (hm : W.mg "sure_numbers" = some (.ref f)) (bi : Binds W.K fd ["harbour", "ships", "spans"] []) (g : Gs W)
    (DR : Def W 4 "reached" ["harbour", "ships", "spans"] (spD W relReached)) (DM : Def W 3 "moves_of" ["harbour", "ships", "state"] (spD W relMoves)) (DB : Def W 4 "sure_by" ["harbour", "ships", "spans", "state", "move", "numbers"] (spR W relSureBy)) : Def W 5 "sure_numbers" ["harbour", "ships", "spans"] (spK W relNumbers) := by
  refine ok_defK F scNumbers hm bi (fun ds d h => ?_) fun ds d h cdv A outer s H E fm => ?_
  · obtain ⟨h, ships, spans, ok, rfl, _⟩ := h; rfl
  · obtain ⟨h, ships, spans, ok, rfl, rfl⟩ := h
    have hs3 : ships.length ≤ 3 := by have := ok.nships2; omega
    have hb8 : h.berths.length ≤ 8 := by have := ok.berths2; omega
    have R := found_ok ok
    have fl := found_len ok
    refine bx_cons (sx_newD 3 fm (fun _ => rfl) (fun _ => .inr rfl) (fun _ => .inl rfl)) ?_
    refine bx_cons (sx_forL (order (foundF ok)) eState (fun t => [.im (eHarb h), .im (eShips ships), .im (eInts spans), .dk (((order (foundF ok)).take t).map fun s => (eState s, eOpt (val h ships spans s))), .un, .un, .un, .un]) rfl
      ((ix_rev fm (fun _ => rfl) g.reversed (call fm DR (ea_cons (v 0 rfl) (ea_cons (v 1 rfl) (ea_cons (v 2 rfl) ea_nil))) ⟨h, ships, spans, ok, rfl, rfl⟩)).is (by unfold order; rw [List.map_reverse])) fm (p1 4 fm) (fun t s hs => ?_)) ?_
    · have sf : s ∈ foundF ok := order_mem.mp (List.mem_of_getElem? hs)
      have sU := R.inU s sf
      have s3 := univ_len2 ok sU
      have tl : t < (order (foundF ok)).length := at_lt hs
      rw [order_len] at tl
      have hnt : s ∉ (order (foundF ok)).take t := fun hm => by
        rw [List.mem_take_iff_getElem] at hm
        obtain ⟨j, hj, e⟩ := hm
        obtain ⟨h1, h2⟩ := List.getElem?_eq_some_iff.mp hs
        have : j = t := (List.getElem_inj (order_nodup R.nd)).mp (by rw [e, h2])
        omega
      refine bx_wk (Γ2 := [.im (eHarb h), .im (eShips ships), .im (eInts spans), .dk (((order (foundF ok)).take (t + 1)).map fun s => (eState s, eOpt (val h ships spans s))), .im (eState s), .im (.list (((movesOf h ships s).map fun m => sureBy h ships spans s m (val h ships spans)).map eOpt)), .un, .un]) ?_ (.same (.same (.same (.same (.un (.un (.same (.same .nil))))))))
      rw [map_take1 hs]
      refine bx_cons (set_lc 5 [("move", 6)] (.nm 6) (movesOf h ships s) eMove (fun m => eOpt (sureBy h ships spans s m (val h ships spans))) fm (ix_lst fm (call fm DM (ea_cons (v 0 rfl) (ea_cons (v 1 rfl) (ea_cons (v 4 rfl) ea_nil))) ⟨h, ships, s, rfl, ok.depths, hb8, hs3, s3, rfl⟩)) (p1 6 (fm.blk _))
        (fun m hmm => ex_callR (fm.blk _) DB (by decide) (fun _ => rfl) (ear_cons (v 0 rfl) (ear_cons (v 1 rfl) (ear_cons (v 2 rfl) (ear_cons (v 4 rfl) (ear_cons (v 6 rfl) (ear_dk 3 (fun _ => rfl) (by first | exact fun _ => .inr (.inl rfl) | exact fun _ => .inr (.inr rfl)) rfl))))))
          ⟨h, ships, spans, s, m, val h ships spans, rfl, hs3, s3, fun k hk => get_state (v := fun s => eOpt (val h ships spans s)) (order_before R ok hs hmm hk), rfl⟩) (sz1000 (moves_len hs3 hb8))) (bx_freeze 5 rfl ?_)
      have e5 : ((movesOf h ships s).map fun m => eOpt (sureBy h ships spans s m (val h ships spans))) = ((movesOf h ships s).map fun m => sureBy h ships spans s m (val h ships spans)).map eOpt := by rw [List.map_map]; rfl
      rw [e5]
      refine bx_one ((sx_putD 3 fm (fun _ => rfl) (fun _ => .inr (.inl rfl)) rfl (v 4 rfl) (isKey_state s) ((has_state (v := fun s => eOpt (val h ships spans s))).trans (decide_eq_false hnt)) (by
          rw [List.length_map, List.length_take]
          have : (10000 : Nat) ≤ sizeLine := by decide
          omega)
        ((ex_minD fm (fun _ => rfl) g.min ((lcF [("one", 7)] (.nm 7) ((movesOf h ships s).map fun m => sureBy h ships spans s m (val h ships spans)) eOpt (fun o => !o.isNone) eOpt fm (ix_lst fm (v 5 rfl)) (p1 7 (fm.blk _)) (fun o _ => (eb_cmp od_notN (v 7 rfl) ex_non).is (by rw [isN_opt])) (fun o _ _ => v 7 rfl) (sz1000 (by rw [List.length_map]; exact moves_len hs3 hb8))).ex.is (by rw [opt_ints])) ex_non).is (orD_opt _))).is ?_)
      have ev : leastO (((movesOf h ships s).map fun m => sureBy h ships spans s m (val h ships spans)).filterMap id) = val h ships spans s := (val_eq ok sU).symm
      rw [ev]
      rfl
    · rw [List.take_length]
      exact bx_one (sx_retK 3 (fun _ => rfl) (fun _ => .inr (.inl rfl)) rfl)
/-! ### sure_cost -/
def relSure (ds : List PyData) (d : PyData) : Prop := ∃ (h : Harb) (ships : List Ship) (spans : List Int), Ok h ships spans ∧ ds = [eHarb h, eShips ships, eInts spans] ∧ d = eOpt (sureCost h ships spans)
abbrev sSure : Stmt := topS 24
abbrev nSure : List Str := ["harbour", "ships", "spans", "numbers", "state"]
theorem scSure : FnScope nSure ["harbour", "ships", "spans"] (defScope sSure) := ⟨rfl, rfl, rfl, by decide +kernel, rfl, by decide +kernel, by decide +kernel⟩
theorem ok_sure {W : Wd} {f : Addr} {fd : FuncData} (F : Fun W.K "sure_cost" "sure_cost" sSure f fd) (hm : W.mg "sure_cost" = some (.ref f)) (bi : Binds W.K fd ["harbour", "ships", "spans"] []) (g : Gs W)
    (DN : Def W 5 "sure_numbers" ["harbour", "ships", "spans"] (spK W relNumbers)) (DF : Def W 3 "first_states" ["ships", "spans"] (spL W relFirst)) (DG : Def W 1 "greatest" ["numbers"] (spD W relGreatest)) : Def W 6 "sure_cost" ["harbour", "ships", "spans"] (spD W relSure) := by
  refine ok_def F scSure hm bi (fun ds d h => ?_) fun ds d h cdv A outer s H E fm => ?_
  · obtain ⟨h, ships, spans, ok, rfl, _⟩ := h; rfl
  · obtain ⟨h, ships, spans, ok, rfl, rfl⟩ := h
    have hs3 : ships.length ≤ 3 := by have := ok.nships2; omega
    have hfl : (firstStates ships spans).length ≤ 1000 := by unfold firstStates; rw [List.length_map]; exact come_len hs3
    refine bx_cons (sx_callK 3 fm DN (by decide) (fun _ => rfl) (fun _ => rfl) (fun _ => .inr rfl) (fun _ => .inl rfl) (ea_cons (v 0 rfl) (ea_cons (v 1 rfl) (ea_cons (v 2 rfl) ea_nil))) ⟨h, ships, spans, ok, rfl, rfl⟩) ?_
    exact bx_one (sx_ret (call fm DG (ea_cons ((lc [("state", 4)] (.nm 4) (firstStates ships spans) eState (fun s => eOpt (val h ships spans s)) fm (ix_lst fm (callL fm DF (ea_cons (v 1 rfl) (ea_cons (v 2 rfl) ea_nil)) ⟨ships, spans, rfl, ok.nships, hs3, rfl⟩).ex) (p1 4 (fm.blk _))
      (fun s hs => ex_getD 3 (fm.blk _) (fun _ => rfl) (by first | exact fun _ => .inr (.inl rfl) | exact fun _ => .inr (.inr rfl)) (.inr rfl) (v 4 rfl) (isKey_state s) (get_state (v := fun s => eOpt (val h ships spans s)) (order_mem.mpr ((found_ok ok).first s hs)))) (sz1000 hfl)).ex) ea_nil)
      ⟨(firstStates ships spans).map (val h ships spans), by rw [List.map_map]; rfl, by rw [List.length_map]; omega, rfl⟩))
end TW
namespace TW
open PySem PySem.Spec PyProof.Rows L2
/-! ### the draws -/
def drawStep (rests : List Int) (k : Nat) : Int × List Int :=
  if 0 < rests.length then
    (if (10 : Int) ^ 18 ≤ rests.getD (k % rests.length) 0 then (rests.getD (k % rests.length) 0 % 1000, rests.set (k % rests.length) (rests.getD (k % rests.length) 0 / 1000))
      else (((((rests.getD (k % rests.length) 0 * 48271 + (k : Int) * 69621 + 11) % 2147483647) * 16807 + ((k % rests.length : Nat) : Int)) % 2147483629) / 7 % 1000, rests))
  else (0, rests)
def drawsF (ns : List Int) : Nat → List Int × List Int
  | 0 => (ns, [])
  | k + 1 => ((drawStep (drawsF ns k).1 k).2, (drawsF ns k).2 ++ [(drawStep (drawsF ns k).1 k).1])
theorem drawStep_len {r : List Int} {k : Nat} : (drawStep r k).2.length = r.length := by
  unfold drawStep
  split
  · split
    · show (List.set _ _ _).length = _
      rw [List.length_set]
    · rfl
  · rfl
theorem draws_len (ns : List Int) : ∀ k, (drawsF ns k).1.length = ns.length ∧ (drawsF ns k).2.length = k
  | 0 => ⟨rfl, rfl⟩
  | k + 1 => by
    obtain ⟨a, b⟩ := draws_len ns k
    exact ⟨drawStep_len.trans a, by show ((drawsF ns k).2 ++ [_]).length = k + 1; rw [List.length_append, b]; rfl⟩
def relDraws (ns : List Int) (ds : List PyData) (d : PyData) : Prop := ∃ n : Nat, ds = [.int n] ∧ n ≤ 1000 ∧ ns.length ≤ 63 ∧ d = eInts (drawsF ns n).2
abbrev sDraws : Stmt := topS 26
abbrev nDraws : List Str := ["_law_script", "_law_count", "_law_rests", "_law_draws_here", "_law_k", "_law_value", "_law_at_here", "_law_mixed", "_law_cell"]
theorem scDraws : FnScope nDraws ["_law_script", "_law_count"] (defScope sDraws) := ⟨rfl, rfl, rfl, by decide +kernel, rfl, by decide +kernel, by decide +kernel⟩
theorem sx_store' {ι : Type} {W : Wd} {F : ι → Cx} {k : Nat} {Γ : SC} {ds : List PyData} {d : PyData} {n : Int} {e ix : Expr} {p pos tp : Pos} {nm : Str} {j : Nat} (i : Nat) (fm : Fm W k F) (h : Γ[i]? = some (.mu ds)) (hix : EX W F ix Γ (.int n)) (hn : ixN ds.length n = some j) (he : EX W F e Γ d) (hi : ∀ j, (F j).N[i]? = some nm := by exact fun _ => rfl) (hv : ∀ j, Vis (F j).env.scope nm := by first | exact fun _ => .inl rfl | exact fun _ => .inr (.inl rfl))
    (ha : ∀ t v, assign (.Subscript (.Name nm p) ix tp) (F t).env v = (do
      let ov ← holding [v] (eval (.Name nm p) (F t).env)
      let iv ← holding [v, ov] (eval ix (F t).env)
      standAt tp
      holding [v, ov, iv] (setItem ov iv v)
      release [v, ov, iv] []) := by exact fun _ _ => rfl)
    (hs : ∀ t, swapsWithSole [.Subscript (.Name nm p) ix tp] e pos.line (F t).env = pure false := by exact fun _ => rfl) (hw : ∀ t, swappedStores [.Subscript (.Name nm p) ix tp] e (F t).env = pure none := by exact fun _ => rfl)
    (h1 : ∀ t, (assignEach [.Subscript (.Name nm p) ix tp] (F t).env).map (·.2) = [assign (.Subscript (.Name nm p) ix tp) (F t).env] := by exact fun _ => rfl)
    (hd : (nm == ("__debug__" : Str)) = false := by decide) (hcd : (nm == ("__classdict__" : Str)) = false := by decide) :
    SX W F (.Assign [.Subscript (.Name nm p) ix tp] e pos) Γ (.nx (Γ.set i (.mu (ds.set j d)))) := sx_store i fm hi hv h hix hn he ha hs hw h1 hd hcd
theorem ixN_nat {n j : Nat} (h : j < n) : ixN n (j : Int) = some j := by
  unfold ixN
  have h1 : (0 : Int) ≤ (j : Int) := by omega
  have h2 : (j : Int) < (n : Int) := by omega
  simp [h1, h2, h]
theorem ok_draws {W : Wd} {f : Addr} {fd : FuncData} (F : Fun W.K "_law_draws" "_law_draws" sDraws f fd) (hm : W.mg "_law_draws" = some (.ref f)) (bi : Binds W.K fd ["_law_script", "_law_count"] []) (g : Gs W) : Def W 1 "_law_draws" ["_law_script", "_law_count"] (spS W relDraws) := by
  refine ok_defS F scDraws hm bi (fun ns ds d h => ?_) fun ns ds d h cdv A outer s H E fm => ?_
  · obtain ⟨n, rfl, _⟩ := h; rfl
  · obtain ⟨n, rfl, hn, h63, rfl⟩ := h
    have big : (100000 : Nat) ≤ sizeLine := by decide
    refine bx_cons (set_lc 2 [("_law_cell", 8)] (.nm 8) ns .int .int fm (ix_sq 0 fm (fun _ => rfl) (fun _ => .inl rfl) rfl) (p1 8 (fm.blk _)) (fun u _ => v 8 rfl) (by omega)) ?_
    refine bx_cons (putL 3 fm (el_lst ea_nil)) ?_
    refine bx_cons (sx_forL (List.range n) (fun (k : Nat) => .int k) (fun t => [.sq ns, .im (.int n), .mu ((drawsF ns t).1.map .int), .mu ((drawsF ns t).2.map .int), .un, .un, .un, .un, .un]) rfl ((irg fm g (v 1 rfl)).is (by rw [Int.toNat_natCast])) fm (p1 4 fm) (fun t k hk => ?_)) ?_
    · have ek : k = t := by
        obtain ⟨a, b⟩ := List.getElem?_eq_some_iff.mp hk
        rw [List.getElem_range] at b
        exact b.symm
      subst ek
      have tl := at_lt hk
      rw [List.length_range] at tl
      obtain ⟨l1, l2⟩ := draws_len ns k
      show BX W _ _ [.sq ns, .im (.int n), .mu ((drawsF ns k).1.map .int), .mu ((drawsF ns k).2.map .int), .im (.int k), .un, .un, .un, .un] (.nx [.sq ns, .im (.int n), .mu ((drawStep (drawsF ns k).1 k).2.map .int), .mu (((drawsF ns k).2 ++ [(drawStep (drawsF ns k).1 k).1]).map .int), .un, .un, .un, .un, .un])
      generalize (drawsF ns k).1 = r at l1
      generalize (drawsF ns k).2 = o at l2
      refine bx_wk (Γ2 := [.sq ns, .im (.int n), .mu ((drawStep r k).2.map .int), .mu ((o ++ [(drawStep r k).1]).map .int), .im (.int k), .im (.int (drawStep r k).1), .un, .un, .un]) ?_ (.same (.same (.same (.same (.un (.un (.same (.same (.same .nil)))))))))
      rw [List.map_append (l₁ := o)]
      refine bx_cons (put 5 fm k0) (bx_cons (Γ1 := [.sq ns, .im (.int n), .mu ((drawStep r k).2.map .int), .mu (o.map .int), .im (.int k), .im (.int (drawStep r k).1), .un, .un, .un]) ?_ (bx_one (app 3 fm rfl (v 5 rfl) (by rw [List.length_map]; omega))))
      refine sx_if (eb_cmp od_gt (ex_thaw 2 rfl rfl (c_len fm g (v 2 rfl))) k0) (fun hc => ?_) (fun hc => ?_)
      · rw [List.length_map] at hc
        have h0 : 0 < r.length := by have := of_decide_eq_true hc; omega
        have hat : k % r.length < r.length := Nat.mod_lt _ h0
        have eat : (k : Int) % ((r.map PyData.int).length : Int) = ((k % r.length : Nat) : Int) := by rw [List.length_map]; rfl
        have rd : atI (r.map PyData.int) ((k % r.length : Nat) : Int) = some (.int (r.getD (k % r.length) 0)) := atI_nat' hat
        have es : drawStep r k = if (10 : Int) ^ 18 ≤ r.getD (k % r.length) 0 then (r.getD (k % r.length) 0 % 1000, r.set (k % r.length) (r.getD (k % r.length) 0 / 1000))
            else (((((r.getD (k % r.length) 0 * 48271 + (k : Int) * 69621 + 11) % 2147483647) * 16807 + ((k % r.length : Nat) : Int)) % 2147483629) / 7 % 1000, r) := by unfold drawStep; rw [if_pos h0]
        rw [es]
        generalize k % r.length = a at hat eat rd
        generalize r.getD a 0 = x at rd
        refine bx_wk (Γ2 := [.sq ns, .im (.int n), .mu ((if (10 : Int) ^ 18 ≤ x then (x % 1000, r.set a (x / 1000)) else ((((x * 48271 + (k : Int) * 69621 + 11) % 2147483647) * 16807 + (a : Int)) % 2147483629 / 7 % 1000, r)).2.map .int), .mu (o.map .int), .im (.int k), .im (.int (if (10 : Int) ^ 18 ≤ x then (x % 1000, r.set a (x / 1000)) else ((((x * 48271 + (k : Int) * 69621 + 11) % 2147483647) * 16807 + (a : Int)) % 2147483629 / 7 % 1000, r)).1), .im (.int a), .un, .un]) ?_ (.same (.same (.same (.same (.same (.same (.un (.same (.same .nil)))))))))
        refine bx_cons (put 6 fm ((ex_op (od_mod (by rw [List.length_map]; omega)) (c_int fm g (v 4 rfl)) (ex_thaw 2 rfl rfl (c_len fm g (v 2 rfl)))).is (by rw [eat]))) (bx_one (sx_if (eb_cmp od_ge (ex_thaw 2 rfl rfl (ixL fm (v 2 rfl) (v 6 rfl) rd)) (ex_op (od_pow (n := 10) (m := 18) ⟨by decide, by decide, by decide⟩) k0 k0)) (fun hq => ?_) (fun hq => ?_)))
        · have hq : decide ((10 : Int) ^ 18 ≤ x) = true := hq
          rw [if_pos (of_decide_eq_true hq)]
          simp only [List.map_set]
          refine bx_cons (put 5 fm (ex_op (od_mod (by decide)) (c_int fm g (ex_thaw 2 rfl rfl (ixL fm (v 2 rfl) (v 6 rfl) rd))) k0)) (bx_one (sx_store' 2 fm rfl (v 6 rfl) (ixN_nat (by rw [List.length_map]; exact hat)) (ex_op (od_fdiv ⟨by decide, by decide⟩) (ex_thaw 2 rfl rfl (ixL fm (v 2 rfl) (v 6 rfl) rd)) k0)))
        · have hq : decide ((10 : Int) ^ 18 ≤ x) = false := hq
          rw [if_neg (of_decide_eq_false hq)]
          refine bx_wk (Γ2 := [.sq ns, .im (.int n), .mu (r.map .int), .mu (o.map .int), .im (.int k), .im (.int ((((x * 48271 + (k : Int) * 69621 + 11) % 2147483647) * 16807 + (a : Int)) % 2147483629 / 7 % 1000)), .im (.int a), .im (.int ((((x * 48271 + (k : Int) * 69621 + 11) % 2147483647) * 16807 + (a : Int)) % 2147483629)), .un]) ?_ (.same (.same (.same (.same (.same (.same (.same (.un (.same .nil)))))))))
          refine bx_cons (put 7 fm (ex_op (od_mod (by decide)) (c_int fm g (ex_op od_add (ex_op od_add (ex_op (od_mul (.inr ⟨by decide, by decide⟩)) (ex_thaw 2 rfl rfl (ixL fm (v 2 rfl) (v 6 rfl) rd)) k0) (ex_op (od_mul (.inr ⟨by decide, by decide⟩)) (v 4 rfl) k0)) k0)) k0)) (bx_cons (put 7 fm (ex_op (od_mod (by decide)) (c_int fm g (ex_op od_add (ex_op (od_mul (.inr ⟨by decide, by decide⟩)) (v 7 rfl) k0) (v 6 rfl))) k0)) (bx_one (put 5 fm (ex_op (od_mod (by decide)) (c_int fm g (ex_op (od_fdiv ⟨by decide, by decide⟩) (v 7 rfl) k0)) k0))))
      · rw [List.length_map] at hc
        have h0 : ¬ 0 < r.length := by have := of_decide_eq_false hc; omega
        have es : drawStep r k = (0, r) := by unfold drawStep; rw [if_neg h0]
        rw [es]
        exact bx_nil
    · rw [List.length_range]
      exact bx_freeze 3 rfl (bx_one (sx_ret (v 3 rfl)))
end TW
namespace TW
open PySem PySem.Spec PyProof.Rows L2
/-! ### the world that the draws give -/
def dg (D : List Int) (i : Nat) : Int := D.getD i 0
def sl (D : List Int) (a b : Nat) : List Int := (D.drop a).take (b - a)
theorem at_dg {D : List Int} {x : Int} {i : Nat} (h : x = (i : Int)) (hi : i < D.length) : atI (D.map PyData.int) x = some (.int (dg D i)) := by
  subst h
  exact atI_nat' hi
theorem cut_sl {D : List Int} {a b : Nat} (h1 : a ≤ b) (h2 : b ≤ D.length) : cutD (D.map PyData.int) (some (a : Int)) (some (b : Int)) = (sl D a b).map .int := by
  unfold cutD sl
  rw [HT.sIx_nat, HT.sIx_nat, List.length_map, Nat.min_eq_left h2, Nat.min_eq_left (Nat.le_trans h1 h2), List.map_take, List.map_drop]
theorem cut_to {D : List Int} {b : Nat} (h2 : b ≤ D.length) : cutD (D.map PyData.int) none (some (b : Int)) = (sl D 0 b).map .int := by
  unfold cutD sl
  rw [HT.sIx_nat, HT.sIx_none, List.length_map, Nat.min_eq_left h2, List.map_take, List.map_drop]
theorem sl_len {D : List Int} {a b : Nat} (h2 : b ≤ D.length) : (sl D a b).length = b - a := by
  unfold sl
  rw [List.length_take, List.length_drop]
  omega
def harbOf (D : List Int) : Harb where
  depths := (List.range (1 + dg D 0 % 6).toNat).map fun k => 2 + dg D (1 + k) % 7
  berths := (List.range (1 + dg D 9 % 2).toNat).map fun k => 3 + dg D (7 + k) % 5
  tugs := dg D 10 % 5
  pilots := 1 + dg D 11 % 3
  last := 4 + dg D 12 % 9
def shipOf (D : List Int) : Ship where
  ready := dg D 0 % 5
  len := 1 + dg D 1 % 6
  dr := dg D 2 % 8
  stay := 1 + dg D 3 % 3
  need := dg D 4 % 3
  sea := dg D 5 % 10
  lie := dg D 6 % 10
def shipsOf (D : List Int) : List Ship := (List.range (1 + dg D 0 % 2).toNat).map fun k => shipOf (sl D (1 + 7 * k) (8 + 7 * k))
def smaller (s : Ship) : Ship := { s with ready := s.ready % 3, len := min s.len 5, dr := s.dr % 7, stay := 1 + s.stay % 2 }
def worldH (D : List Int) : Harb := { harbOf (sl D 0 13) with tugs := 1 + (harbOf (sl D 0 13)).tugs, last := min (harbOf (sl D 0 13)).last 8 }
def worldS (D : List Int) : List Ship := (shipsOf (sl D 13 28)).map smaller
def spanTab : List Int := [0, 1, 2, 1, 0, 3]
def worldN (D : List Int) : List Int := (List.range (worldS D).length).map fun k => spanTab.getD (dg D (28 + k) % 6).toNat 0
/-! ### _law_harbour -/
def relLH (ds : List PyData) (d : PyData) : Prop := ∃ D : List Int, ds = [eInts D] ∧ D.length = 13 ∧ d = eHarb (harbOf D)
abbrev sLH : Stmt := topS 27
abbrev nLH : List Str := ["_law_draws_here", "_law_depths", "_law_berths", "_law_k"]
theorem scLH : FnScope nLH ["_law_draws_here"] (defScope sLH) := ⟨rfl, rfl, rfl, by decide +kernel, rfl, by decide +kernel, by decide +kernel⟩
theorem ok_LH {W : Wd} {f : Addr} {fd : FuncData} (F : Fun W.K "_law_harbour" "_law_harbour" sLH f fd) (hm : W.mg "_law_harbour" = some (.ref f)) (bi : Binds W.K fd ["_law_draws_here"] []) (g : Gs W) : Def W 1 "_law_harbour" ["_law_draws_here"] (spD W relLH) := by
  refine ok_def F scLH hm bi (fun ds d h => ?_) fun ds d h cdv A outer s H E fm => ?_
  · obtain ⟨D, rfl, _⟩ := h; rfl
  · obtain ⟨D, rfl, hD, rfl⟩ := h
    have q0 := Int.emod_nonneg (dg D 0) (b := 6) (by decide)
    have q1 := Int.emod_lt_of_pos (dg D 0) (b := 6) (by decide)
    have q2 := Int.emod_nonneg (dg D 9) (b := 2) (by decide)
    have q3 := Int.emod_lt_of_pos (dg D 9) (b := 2) (by decide)
    have ed : ((List.range (1 + dg D 0 % 6).toNat).map fun k => PyData.int (2 + dg D (1 + k) % 7)) = (harbOf D).depths.map .int := by unfold harbOf; rw [List.map_map]; rfl
    have eb : ((List.range (1 + dg D 9 % 2).toNat).map fun k => PyData.int (3 + dg D (7 + k) % 5)) = (harbOf D).berths.map .int := by unfold harbOf; rw [List.map_map]; rfl
    refine bx_cons (set_lc 1 [("_law_k", 3)] (.nm 3) (List.range (1 + dg D 0 % 6).toNat) (fun (k : Nat) => .int k) (fun k => .int (2 + dg D (1 + k) % 7)) fm (irg fm g (ex_op od_add k0 (ex_op (od_mod (by decide)) (c_int fm g (ixL fm (v 0 rfl) k0 (at_dg rfl (by omega)))) k0))) (p1 3 (fm.blk _))
      (fun k hk => ex_op od_add k0 (ex_op (od_mod (by decide)) (c_int (fm.blk _) g (ixL (fm.blk _) (v 0 rfl) (ex_op od_add k0 (v 3 rfl)) (at_dg (i := 1 + k) (by omega) (by have := List.mem_range.mp hk; omega)))) k0)) (sz1000 (by rw [List.length_range]; omega))) (bx_freeze 1 rfl ?_)
    rw [ed]
    refine bx_cons (set_lc 2 [("_law_k", 3)] (.nm 3) (List.range (1 + dg D 9 % 2).toNat) (fun (k : Nat) => .int k) (fun k => .int (3 + dg D (7 + k) % 5)) fm (irg fm g (ex_op od_add k0 (ex_op (od_mod (by decide)) (c_int fm g (ixL fm (v 0 rfl) k0 (at_dg rfl (by omega)))) k0))) (p1 3 (fm.blk _))
      (fun k hk => ex_op od_add k0 (ex_op (od_mod (by decide)) (c_int (fm.blk _) g (ixL (fm.blk _) (v 0 rfl) (ex_op od_add k0 (v 3 rfl)) (at_dg (i := 7 + k) (by omega) (by have := List.mem_range.mp hk; omega)))) k0)) (sz1000 (by rw [List.length_range]; omega))) (bx_freeze 2 rfl ?_)
    rw [eb]
    exact bx_one (sx_ret (ex_tup (ea_cons (v 1 rfl) (ea_cons (v 2 rfl) (ea_cons (ex_op (od_mod (by decide)) (c_int fm g (ixL fm (v 0 rfl) k0 (at_dg rfl (by omega)))) k0) (ea_cons (ex_op od_add k0 (ex_op (od_mod (by decide)) (c_int fm g (ixL fm (v 0 rfl) k0 (at_dg rfl (by omega)))) k0)) (ea_cons (ex_op od_add k0 (ex_op (od_mod (by decide)) (c_int fm g (ixL fm (v 0 rfl) k0 (at_dg rfl (by omega)))) k0)) ea_nil)))))))
/-! ### _law_ship, _law_ships -/
def relLS (ds : List PyData) (d : PyData) : Prop := ∃ D : List Int, ds = [eInts D] ∧ D.length = 7 ∧ d = eShip (shipOf D)
abbrev sLS : Stmt := topS 28
abbrev nLS : List Str := ["_law_draws_here", "_law_own"]
theorem scLS : FnScope nLS ["_law_draws_here"] (defScope sLS) := ⟨rfl, rfl, rfl, by decide +kernel, rfl, by decide +kernel, by decide +kernel⟩
theorem ok_LS {W : Wd} {f : Addr} {fd : FuncData} (F : Fun W.K "_law_ship" "_law_ship" sLS f fd) (hm : W.mg "_law_ship" = some (.ref f)) (bi : Binds W.K fd ["_law_draws_here"] []) (g : Gs W) : Def W 1 "_law_ship" ["_law_draws_here"] (spD W relLS) := by
  refine ok_def F scLS hm bi (fun ds d h => ?_) fun ds d h cdv A outer s H E fm => ?_
  · obtain ⟨D, rfl, _⟩ := h; rfl
  · obtain ⟨D, rfl, hD, rfl⟩ := h
    refine bx_cons (put 1 fm (ex_lst (ea_cons (ex_op (od_mod (by decide)) (c_int fm g (ixL fm (v 0 rfl) k0 (at_dg (i := 0) rfl (by omega)))) k0) (ea_cons (ex_op od_add k0 (ex_op (od_mod (by decide)) (c_int fm g (ixL fm (v 0 rfl) k0 (at_dg (i := 1) rfl (by omega)))) k0)) (ea_cons (ex_op (od_mod (by decide)) (c_int fm g (ixL fm (v 0 rfl) k0 (at_dg (i := 2) rfl (by omega)))) k0) (ea_cons (ex_op od_add k0 (ex_op (od_mod (by decide)) (c_int fm g (ixL fm (v 0 rfl) k0 (at_dg (i := 3) rfl (by omega)))) k0)) ea_nil)))))) ?_
    exact bx_one (sx_ret (c_tupL fm g (ex_op (od_cat (Nat.le_of_ble_eq_true rfl)) (v 1 rfl) (ex_lst (ea_cons (ex_op (od_mod (by decide)) (c_int fm g (ixL fm (v 0 rfl) k0 (at_dg (i := 4) rfl (by omega)))) k0) (ea_cons (ex_op (od_mod (by decide)) (c_int fm g (ixL fm (v 0 rfl) k0 (at_dg (i := 5) rfl (by omega)))) k0) (ea_cons (ex_op (od_mod (by decide)) (c_int fm g (ixL fm (v 0 rfl) k0 (at_dg (i := 6) rfl (by omega)))) k0) ea_nil)))))))
def relLSs (ds : List PyData) (d : PyData) : Prop := ∃ D : List Int, ds = [eInts D, .int 2] ∧ D.length = 15 ∧ d = eShips (shipsOf D)
abbrev sLSs : Stmt := topS 29
abbrev nLSs : List Str := ["_law_draws_here", "_law_most", "_law_k"]
theorem scLSs : FnScope nLSs ["_law_draws_here", "_law_most"] (defScope sLSs) := ⟨rfl, rfl, rfl, by decide +kernel, rfl, by decide +kernel, by decide +kernel⟩
theorem ok_LSs {W : Wd} {f : Addr} {fd : FuncData} (F : Fun W.K "_law_ships" "_law_ships" sLSs f fd) (hm : W.mg "_law_ships" = some (.ref f)) (bi : Binds W.K fd ["_law_draws_here", "_law_most"] []) (g : Gs W) (DS : Def W 1 "_law_ship" ["_law_draws_here"] (spD W relLS)) : Def W 2 "_law_ships" ["_law_draws_here", "_law_most"] (spD W relLSs) := by
  refine ok_def F scLSs hm bi (fun ds d h => ?_) fun ds d h cdv A outer s H E fm => ?_
  · obtain ⟨D, rfl, _⟩ := h; rfl
  · obtain ⟨D, rfl, hD, rfl⟩ := h
    have q0 := Int.emod_nonneg (dg D 0) (b := 2) (by decide)
    have q1 := Int.emod_lt_of_pos (dg D 0) (b := 2) (by decide)
    refine bx_one (sx_ret ((lc [("_law_k", 2)] (.nm 2) (List.range (1 + dg D 0 % 2).toNat) (fun (k : Nat) => .int k) (fun k => eShip (shipOf (sl D (1 + 7 * k) (8 + 7 * k)))) fm (irg fm g (ex_op od_add k0 (ex_op (od_mod (by decide)) (c_int fm g (ixL fm (v 0 rfl) k0 (at_dg rfl (by omega)))) (v 1 rfl)))) (p1 2 (fm.blk _))
      (fun k hk => ?_) (sz1000 (by rw [List.length_range]; omega))).ex.is (by unfold shipsOf eShips; rw [List.map_map]; rfl)))
    have hk' : k ≤ 1 := by have := List.mem_range.mp hk; omega
    refine call (fm.blk _) DS (ea_cons (ex_sliceL (fm.blk _) (v 0 rfl) (eo_some (ex_op od_add k0 (ex_op (od_mul (.inl ⟨by decide, by decide⟩)) k0 (v 2 rfl)))) (eo_some (ex_op od_add k0 (ex_op (od_mul (.inl ⟨by decide, by decide⟩)) k0 (v 2 rfl))))) ea_nil) ⟨sl D (1 + 7 * k) (8 + 7 * k), ?_, ?_, rfl⟩
    · have e1 : (1 : Int) + 7 * (k : Int) = ((1 + 7 * k : Nat) : Int) := by omega
      have e2 : (8 : Int) + 7 * (k : Int) = ((8 + 7 * k : Nat) : Int) := by omega
      rw [e1, e2, cut_sl (by omega) (by omega)]
      rfl
    · rw [sl_len (by omega)]
      omega
/-! ### _law_world -/
theorem tab_at {x : Int} : atI [PyData.int 0, .int 1, .int 2, .int 1, .int 0, .int 3] (x % 6) = some (.int (spanTab.getD (x % 6).toNat 0)) := atI_getD (l := spanTab) (Int.emod_nonneg x (by decide)) (by have := Int.emod_lt_of_pos x (b := 6) (by decide); exact this)
def eWorld (D : List Int) : PyData := .tuple [eHarb (worldH D), eShips (worldS D), eInts (worldN D)]
def relLW (ds : List PyData) (d : PyData) : Prop := ∃ D : List Int, ds = [eInts D] ∧ D.length = 40 ∧ d = eWorld D
abbrev sLW : Stmt := topS 36
abbrev nLW : List Str := ["_law_draws_here", "_law_depths", "_law_berths", "_law_tugs", "_law_pilots", "_law_last", "_law_ships_here", "_law_ready", "_law_length", "_law_draught", "_law_stay", "_law_needs", "_law_sea", "_law_lie", "_law_spans", "_law_k"]
theorem scLW : FnScope nLW ["_law_draws_here"] (defScope sLW) := ⟨rfl, rfl, rfl, by decide +kernel, rfl, by decide +kernel, by decide +kernel⟩
theorem ships_len {D : List Int} : (shipsOf D).length ≤ 2 := by
  unfold shipsOf
  rw [List.length_map, List.length_range]
  have q0 := Int.emod_nonneg (dg D 0) (b := 2) (by decide)
  have q1 := Int.emod_lt_of_pos (dg D 0) (b := 2) (by decide)
  omega
theorem ok_LW {W : Wd} {f : Addr} {fd : FuncData} (F : Fun W.K "_law_world" "_law_world" sLW f fd) (hm : W.mg "_law_world" = some (.ref f)) (bi : Binds W.K fd ["_law_draws_here"] []) (g : Gs W)
    (DH : Def W 1 "_law_harbour" ["_law_draws_here"] (spD W relLH)) (DS : Def W 2 "_law_ships" ["_law_draws_here", "_law_most"] (spD W relLSs)) : Def W 3 "_law_world" ["_law_draws_here"] (spD W relLW) := by
  refine ok_def F scLW hm bi (fun ds d h => ?_) fun ds d h cdv A outer s H E fm => ?_
  · obtain ⟨D, rfl, _⟩ := h; rfl
  · obtain ⟨D, rfl, hD, rfl⟩ := h
    have big : (1000 : Nat) ≤ sizeLine := by decide
    have hsl := ships_len (D := sl D 13 28)
    refine bx_cons (sx_unp (T := .tp [1, 2, 3, 4, 5]) (call fm DH (ea_cons (ex_sliceL fm (v 0 rfl) eo_none (eo_some k0)) ea_nil) ⟨sl D 0 13, by rw [show (13 : Int) = ((13 : Nat) : Int) from rfl, cut_to (by omega)]; rfl, by rw [sl_len (by omega)], rfl⟩) (pgx_tp fm (pn 1 fm (pn 2 fm (pn 3 fm (pn 4 fm (pn 5 fm pgsx_nil)))))) rfl) ?_
    refine bx_cons (putL 6 fm (el_lst ea_nil)) ?_
    refine bx_cons (sx_forL (shipsOf (sl D 13 28)) eShip (fun t => [.im (eInts D), .im (eInts (harbOf (sl D 0 13)).depths), .im (eInts (harbOf (sl D 0 13)).berths), .im (.int (harbOf (sl D 0 13)).tugs), .im (.int (harbOf (sl D 0 13)).pilots), .im (.int (harbOf (sl D 0 13)).last), .mu (((shipsOf (sl D 13 28)).take t).map fun s => eShip (smaller s)), .un, .un, .un, .un, .un, .un, .un, .un, .un]) rfl
      (ix_lst fm (call fm DS (ea_cons (ex_sliceL fm (v 0 rfl) (eo_some k0) (eo_some k0)) (ea_cons k0 ea_nil)) ⟨sl D 13 28, by rw [show (13 : Int) = ((13 : Nat) : Int) from rfl, show (28 : Int) = ((28 : Nat) : Int) from rfl, cut_sl (by omega) (by omega)]; rfl, by rw [sl_len (by omega)], rfl⟩)) fm
      (pgx_tp fm (pn 7 fm (pn 8 fm (pn 9 fm (pn 10 fm (pn 11 fm (pn 12 fm (pn 13 fm pgsx_nil)))))))) (fun t sh hsh => ?_)) ?_
    · rw [map_take1 hsh]
      have ht := at_lt hsh
      refine bx_wk (Γ2 := [.im (eInts D), .im (eInts (harbOf (sl D 0 13)).depths), .im (eInts (harbOf (sl D 0 13)).berths), .im (.int (harbOf (sl D 0 13)).tugs), .im (.int (harbOf (sl D 0 13)).pilots), .im (.int (harbOf (sl D 0 13)).last), .mu ((((shipsOf (sl D 13 28)).take t).map fun s => eShip (smaller s)) ++ [eShip (smaller sh)]), .im (.int sh.ready), .im (.int sh.len), .im (.int sh.dr), .im (.int sh.stay), .im (.int sh.need), .im (.int sh.sea), .im (.int sh.lie), .un, .un]) ?_
        (.same (.same (.same (.same (.same (.same (.same (.un (.un (.un (.un (.un (.un (.un (.same (.same .nil))))))))))))))))
      exact bx_one (app 6 fm rfl (ex_tup (ea_cons (ex_op (od_mod (by decide)) (c_int fm g (v 7 rfl)) k0) (ea_cons (c_min fm g (v 8 rfl) k0) (ea_cons (ex_op (od_mod (by decide)) (c_int fm g (v 9 rfl)) k0) (ea_cons (ex_op od_add k0 (ex_op (od_mod (by decide)) (c_int fm g (v 10 rfl)) k0)) (ea_cons (v 11 rfl) (ea_cons (v 12 rfl) (ea_cons (v 13 rfl) ea_nil)))))))) (by rw [List.length_map, List.length_take]; omega))
    · rw [List.take_length]
      have es : ((shipsOf (sl D 13 28)).map fun s => eShip (smaller s)) = (worldS D).map eShip := by unfold worldS; rw [List.map_map]; rfl
      rw [es]
      have wl : (worldS D).length ≤ 2 := by unfold worldS; rw [List.length_map]; exact hsl
      refine bx_freeze 6 rfl (bx_cons (set_lc 14 [("_law_k", 15)] (.nm 15) (List.range (worldS D).length) (fun (k : Nat) => .int k) (fun k => .int (spanTab.getD (dg D (28 + k) % 6).toNat 0)) fm ((irg fm g (c_len fm g (v 6 rfl)) (by omega) (by rw [List.length_map]; omega)).is (by rw [List.length_map]; rfl)) (p1 15 (fm.blk _))
        (fun k hk => ixL (fm.blk _) (ex_lst (ea_cons k0 (ea_cons k0 (ea_cons k0 (ea_cons k0 (ea_cons k0 (ea_cons k0 ea_nil))))))) (ex_op (od_mod (by decide)) (c_int (fm.blk _) g (ixL (fm.blk _) (v 0 rfl) (ex_op od_add k0 (v 15 rfl)) (at_dg (i := 28 + k) (by omega) (by have := List.mem_range.mp hk; omega)))) k0) tab_at) (sz1000 (by rw [List.length_range]; omega))) (bx_freeze 14 rfl (bx_one (sx_ret ((ex_tup (ea_cons (ex_tup (ea_cons (v 1 rfl) (ea_cons (v 2 rfl) (ea_cons (ex_op od_add k0 (v 3 rfl)) (ea_cons (v 4 rfl) (ea_cons (c_min fm g (v 5 rfl) k0) ea_nil)))))) (ea_cons (v 6 rfl) (ea_cons (v 14 rfl) ea_nil)))).is ?_)))))
      unfold eWorld worldN eInts
      rw [List.map_map]
      rfl
end TW
namespace TW
open PySem PySem.Spec PyProof.Rows L2
/-! ### _law_moves -/
def relLM (ds : List PyData) (d : PyData) : Prop := ∃ (h : Harb) (s : Ship), ds = [eHarb h, eShip s] ∧ 1 ≤ h.depths.length ∧ h.berths.length ≤ 2 ∧ 0 ≤ h.last ∧ h.last ≤ 6 ∧ d = .list ((lawMoves h s).map eGo)
abbrev sLM : Stmt := topS 30
abbrev nLM : List Str := ["_law_harbour_here", "_law_ship_here", "_law_depths", "_law_berths", "_law_tugs", "_law_pilots", "_law_last", "_law_ready", "_law_length", "_law_draught", "_law_stay", "_law_needs", "_law_sea", "_law_lie", "_law_deep", "_law_found", "_law_first", "_law_out", "_law_berth", "_law_hour"]
theorem scLM : FnScope nLM ["_law_harbour_here", "_law_ship_here"] (defScope sLM) := ⟨rfl, rfl, rfl, by decide +kernel, rfl, by decide +kernel, by decide +kernel⟩
theorem deep_len {h : Harb} {s : Ship} (h6 : h.last ≤ 6) : (lawDeep h s).length ≤ 7 := by
  unfold lawDeep
  refine Nat.le_trans (List.length_filter_le _ _) ?_
  rw [List.length_map, List.length_range]
  omega
theorem depth_at' {h : Harb} {t : Int} (h0 : 1 ≤ h.depths.length) : atI (h.depths.map PyData.int) (t % ((h.depths.map PyData.int).length : Int)) = some (.int (depthAt h t)) := by
  have hl : (0 : Int) < ((h.depths.map PyData.int).length : Int) := by rw [List.length_map]; omega
  have := atI_getD (l := h.depths) (i := t % (h.depths.map PyData.int).length) (Int.emod_nonneg _ (by omega)) (by have := Int.emod_lt_of_pos t hl; rw [List.length_map] at this ⊢; exact this)
  rw [this, List.length_map]
  rfl
def berthGo (h : Harb) (s : Ship) (f o : Int) : List Go := ((List.range h.berths.length).map fun (b : Nat) => (⟨f, b, o⟩ : Go)).filter (goOk h s)
theorem berthGo_len {h : Harb} {s : Ship} {f o : Int} (h2 : h.berths.length ≤ 2) : (berthGo h s f o).length ≤ 2 := by
  unfold berthGo
  refine Nat.le_trans (List.length_filter_le _ _) ?_
  rw [List.length_map, List.length_range]
  exact h2
theorem lawMoves_len {h : Harb} {s : Ship} (h2 : h.berths.length ≤ 2) (h6 : h.last ≤ 6) : (lawMoves h s).length ≤ 98 := by
  unfold lawMoves
  have d := deep_len (s := s) h6
  refine Nat.le_trans (len_flat (b := 14) fun f _ => Nat.le_trans (len_flat (b := 2) fun o _ => berthGo_len h2) ?_) ?_
  · omega
  · omega
def forSt (n : Nat) (l : List Stmt) : Stmt := l.getD n (.Pass ⟨0, 0, 0, 0⟩)
def gM (h : Harb) (sh : Ship) (rest : SC) : SC := .im (eHarb h) :: .im (eShip sh) :: .im (eInts h.depths) :: .im (eInts h.berths) :: .im (.int h.tugs) :: .im (.int h.pilots) :: .im (.int h.last) :: .im (.int sh.ready) :: .im (.int sh.len) :: .im (.int sh.dr) :: .im (.int sh.stay) :: .im (.int sh.need) :: .im (.int sh.sea) :: .im (.int sh.lie) :: rest
theorem wk_M {h : Harb} {sh : Ship} {a b : SC} (w : Wk a b) : Wk (gM h sh a) (gM h sh b) := .same (.same (.same (.same (.same (.same (.same (.same (.same (.same (.same (.same (.same (.same w)))))))))))))
theorem ok_LM {W : Wd} {f : Addr} {fd : FuncData} (F : Fun W.K "_law_moves" "_law_moves" sLM f fd) (hm : W.mg "_law_moves" = some (.ref f)) (bi : Binds W.K fd ["_law_harbour_here", "_law_ship_here"] []) (g : Gs W) : Def W 1 "_law_moves" ["_law_harbour_here", "_law_ship_here"] (spD W relLM) := by
  refine ok_def F scLM hm bi (fun ds d h => ?_) fun ds d h cdv A outer s H E fm => ?_
  · obtain ⟨h, sh, rfl, _⟩ := h; rfl
  · obtain ⟨h, sh, rfl, h0, h2, l0, l6, rfl⟩ := h
    have big : (1000 : Nat) ≤ sizeLine := by decide
    have dl := deep_len (s := sh) l6
    refine bx_cons (Γ1 := [.im (eHarb h), .im (eShip sh), .im (eInts h.depths), .im (eInts h.berths), .im (.int h.tugs), .im (.int h.pilots), .im (.int h.last), .un, .un, .un, .un, .un, .un, .un, .un, .un, .un, .un, .un, .un]) (sx_unp (T := .tp [2, 3, 4, 5, 6]) (d := eHarb h) (v 0 rfl) (pgx_tp fm (pn 2 fm (pn 3 fm (pn 4 fm (pn 5 fm (pn 6 fm pgsx_nil)))))) rfl) ?_
    refine bx_cons (Γ1 := gM h sh [.un, .un, .un, .un, .un, .un]) (sx_unp (T := .tp [7, 8, 9, 10, 11, 12, 13]) (d := eShip sh) (v 1 rfl) (pgx_tp fm (pn 7 fm (pn 8 fm (pn 9 fm (pn 10 fm (pn 11 fm (pn 12 fm (pn 13 fm pgsx_nil)))))))) rfl) ?_
    refine bx_cons (Γ1 := gM h sh [.mu (((List.range (h.last + 1).toNat).filter fun (t : Nat) => decide (sh.dr ≤ depthAt h (t : Int))).map fun (t : Nat) => PyData.int (t : Int)), .un, .un, .un, .un, .un]) (set_lcF 14 [("_law_hour", 19)] (.nm 19) (List.range (h.last + 1).toNat) (fun (t : Nat) => .int t) (fun t => decide (sh.dr ≤ depthAt h (t : Int))) (fun t => .int t) fm (irg fm g (ex_op od_add (v 6 rfl) k0)) (p1 19 (fm.blk _))
      (fun t _ => eb_cmp od_ge (ixL (fm.blk _) (v 2 rfl) (ex_op (od_mod (by rw [List.length_map]; omega)) (c_int (fm.blk _) g (v 19 rfl)) (c_len (fm.blk _) g (v 2 rfl))) (depth_at' h0)) (v 9 rfl)) (fun t _ _ => v 19 rfl) (sz1000 (by rw [List.length_range]; omega))) (bx_freeze 14 rfl ?_)
    have ed : (((List.range (h.last + 1).toNat).filter fun (t : Nat) => decide (sh.dr ≤ depthAt h (t : Int))).map fun (t : Nat) => PyData.int (t : Int)) = (lawDeep h sh).map .int := by
      unfold lawDeep
      rw [List.filter_map, List.map_map]
      rfl
    rw [ed]
    show BX W _ _ (gM h sh [.im (eInts (lawDeep h sh)), .un, .un, .un, .un, .un]) _
    refine bx_cons (Γ1 := gM h sh [.im (eInts (lawDeep h sh)), .mu [], .un, .un, .un, .un]) (putL 15 fm (el_lst ea_nil)) ?_
    refine bx_cons (sx_forL (lawDeep h sh) .int (fun t => (gM h sh [.im (eInts (lawDeep h sh)), .mu ((((lawDeep h sh).take t).flatMap fun f => (lawDeep h sh).flatMap fun o => berthGo h sh f o).map eGo), .un, .un, .un, .un])) rfl (ix_lst fm (v 14 rfl)) fm (p1 16 fm) (fun t fi hfi => ?_)) ?_
    · refine bx_wk (Γ2 := (gM h sh [.im (eInts (lawDeep h sh)), .mu ((((lawDeep h sh).take (t + 1)).flatMap fun f => (lawDeep h sh).flatMap fun o => berthGo h sh f o).map eGo), .im (.int fi), .un, .un, .un])) ?_
        (wk_M (.same (.same (.un (.same (.same (.same .nil)))))))
      rw [flat_take hfi]
      have ac : (((lawDeep h sh).take t).flatMap fun f => (lawDeep h sh).flatMap fun o => berthGo h sh f o).length ≤ 98 := by
        refine Nat.le_trans (len_flat (b := 14) fun f _ => Nat.le_trans (len_flat (b := 2) fun o _ => berthGo_len h2) (by omega)) ?_
        rw [List.length_take]
        omega
      generalize (((lawDeep h sh).take t).flatMap fun f => (lawDeep h sh).flatMap fun o => berthGo h sh f o) = acc at ac
      refine bx_one ((sx_forL (lawDeep h sh) .int (fun u => (gM h sh [.im (eInts (lawDeep h sh)), .mu ((acc ++ ((lawDeep h sh).take u).flatMap fun o => berthGo h sh fi o).map eGo), .im (.int fi), .un, .un, .un])) (by simp only [List.take_zero, List.flatMap_nil, List.append_nil]; rfl) (ix_lst fm (v 14 rfl)) fm (p1 17 fm) (fun u ou hou => ?_)).is (by rw [List.take_length]))
      refine bx_wk (Γ2 := (gM h sh [.im (eInts (lawDeep h sh)), .mu ((acc ++ ((lawDeep h sh).take (u + 1)).flatMap fun o => berthGo h sh fi o).map eGo), .im (.int fi), .im (.int ou), .un, .un])) ?_
        (wk_M (.same (.same (.same (.un (.same (.same .nil)))))))
      rw [flat_take hou]
      have bc : (acc ++ ((lawDeep h sh).take u).flatMap fun o => berthGo h sh fi o).length ≤ 112 := by
        have := len_flat (b := 2) (l := (lawDeep h sh).take u) (f := fun o => berthGo h sh fi o) fun o _ => berthGo_len h2
        rw [List.length_take] at this
        rw [List.length_append]
        omega
      rw [← List.append_assoc]
      generalize (acc ++ ((lawDeep h sh).take u).flatMap fun o => berthGo h sh fi o) = acc2 at bc
      refine bx_one ((sx_forL (List.range h.berths.length) (fun (b : Nat) => .int b) (fun w => (gM h sh [.im (eInts (lawDeep h sh)), .mu ((acc2 ++ (((List.range h.berths.length).take w).map fun (b : Nat) => (⟨fi, b, ou⟩ : Go)).filter (goOk h sh)).map eGo), .im (.int fi), .im (.int ou), .un, .un])) (by simp only [List.take_zero, List.map_nil, List.filter_nil, List.append_nil]; rfl)
        ((irg fm g (c_len fm g (v 3 rfl)) (by omega) (by rw [List.length_map]; omega)).is (by rw [List.length_map]; rfl)) fm (p1 18 fm) (fun w b hb => ?_)).is (by rw [List.take_length]; rfl))
      have hbl : b < h.berths.length := List.mem_range.mp (List.mem_of_getElem? hb)
      refine bx_wk (Γ2 := (gM h sh [.im (eInts (lawDeep h sh)), .mu ((acc2 ++ (((List.range h.berths.length).take (w + 1)).map fun (b : Nat) => (⟨fi, b, ou⟩ : Go)).filter (goOk h sh)).map eGo), .im (.int fi), .im (.int ou), .im (.int b), .un])) ?_
        (wk_M (.same (.same (.same (.same (.un (.same .nil)))))))
      rw [map_take1 hb, List.filter_append, ← List.append_assoc]
      have cc : (acc2 ++ (((List.range h.berths.length).take w).map fun (b : Nat) => (⟨fi, b, ou⟩ : Go)).filter (goOk h sh)).length ≤ 200 := by
        have := List.length_filter_le (goOk h sh) (((List.range h.berths.length).take w).map fun (b : Nat) => (⟨fi, b, ou⟩ : Go))
        rw [List.length_map, List.length_take, List.length_range] at this
        rw [List.length_append]
        omega
      generalize (acc2 ++ (((List.range h.berths.length).take w).map fun (b : Nat) => (⟨fi, b, ou⟩ : Go)).filter (goOk h sh)) = acc3 at cc
      refine bx_one (sx_if (c := goOk h sh ⟨fi, b, ou⟩) ((eb_w (ew_and (eb_cmp od_ge (v 16 rfl) (v 7 rfl)) (fun _ => ew_and (eb_cmp od_gt (v 17 rfl) (ex_op od_add (v 16 rfl) (v 10 rfl))) (fun _ => ew_and (eb_cmp od_ge (ixL fm (v 3 rfl) (v 18 rfl) (atI_nat' hbl)) (v 8 rfl)) (fun _ => ew_and1 (eb_cmp od_le (v 11 rfl) (v 4 rfl))))))).is ?_) (fun hc => ?_) (fun hc => ?_))
      · unfold goOk
        rw [Int.toNat_natCast]
      · rw [List.filter_cons_of_pos hc, List.filter_nil, List.map_append (l₁ := acc3)]
        exact bx_one (app 15 fm rfl (ex_tup (ea_cons (v 16 rfl) (ea_cons (v 18 rfl) (ea_cons (v 17 rfl) ea_nil)))) (by rw [List.length_map]; omega))
      · rw [List.filter_cons_of_neg (by rw [hc]; decide), List.filter_nil, List.append_nil]
        exact bx_nil
    · rw [List.take_length]
      exact bx_freeze 15 rfl (bx_one (sx_ret (v 15 rfl)))
/-! ### _law_apart -/
def relLA (ds : List PyData) (d : PyData) : Prop := ∃ x y : Go, ds = [eGo x, eGo y] ∧ d = .bool (lawApart x y)
abbrev sLA : Stmt := topS 31
abbrev nLA : List Str := ["_law_one", "_law_other"]
theorem scLA : FnScope nLA ["_law_one", "_law_other"] (defScope sLA) := ⟨rfl, rfl, rfl, by decide +kernel, rfl, by decide +kernel, by decide +kernel⟩
theorem ok_LA {W : Wd} {f : Addr} {fd : FuncData} (F : Fun W.K "_law_apart" "_law_apart" sLA f fd) (hm : W.mg "_law_apart" = some (.ref f)) (bi : Binds W.K fd ["_law_one", "_law_other"] []) (g : Gs W) : Def W 1 "_law_apart" ["_law_one", "_law_other"] (spD W relLA) := by
  refine ok_def F scLA hm bi (fun ds d h => ?_) fun ds d h cdv A outer s H E fm => ?_
  · obtain ⟨x, y, rfl, _⟩ := h; rfl
  · obtain ⟨x, y, rfl, rfl⟩ := h
    refine bx_ifr (eb_cmp od_neI (ixT fm (v 0 rfl) k0 rfl) (ixT fm (v 1 rfl) k0 rfl)) (fun c => ?_) (fun c => ?_)
    · unfold lawApart
      rw [if_pos (by simpa using c)]
      exact bx_one (sx_ret ex_bl)
    · unfold lawApart
      rw [if_neg (by simpa using c)]
      exact bx_one (sx_ret (ex_or (ex_cmp od_lt (ixT fm (v 0 rfl) k0 rfl) (ixT fm (v 1 rfl) k0 rfl)) (fun _ => ex_one (ex_cmp od_lt (ixT fm (v 1 rfl) k0 rfl) (ixT fm (v 0 rfl) k0 rfl)))))
end TW
namespace TW
open PySem PySem.Spec PyProof.Rows L2
/-! ### _law_fits -/
theorem filter_range {α : Type} (zs : List α) (P : α → Bool) (Q : Nat → Bool) (h : ∀ (k : Nat) (x : α), zs[k]? = some x → Q k = P x) : ∃ ks, (List.range zs.length).filter Q = ks ∧ ks.length = (zs.filter P).length ∧ ∀ {β : Type} (u : Nat → β) (w : α → β), (∀ (k : Nat) (x : α), zs[k]? = some x → u k = w x) → ks.map u = (zs.filter P).map w := by
  refine ⟨_, rfl, ?_⟩
  have key : ∀ n, n ≤ zs.length → ((List.range n).filter Q).length = ((zs.take n).filter P).length ∧ ∀ {β : Type} (u : Nat → β) (w : α → β), (∀ (k : Nat) (x : α), zs[k]? = some x → u k = w x) → ((List.range n).filter Q).map u = ((zs.take n).filter P).map w := by
    intro n
    induction n with
    | zero => intro _; exact ⟨rfl, fun _ _ _ => rfl⟩
    | succ n ih =>
      intro hn
      obtain ⟨x, hx⟩ := at_of (l := zs) (i := n) hn
      obtain ⟨a, b⟩ := ih (Nat.le_of_succ_le hn)
      have e1 : (List.range (n + 1)).filter Q = (List.range n).filter Q ++ (if Q n = true then [n] else []) := by
        rw [List.range_succ, List.filter_append]
        congr 1
        show List.filter Q [n] = _
        rw [List.filter_cons, List.filter_nil]
      have e2 : (zs.take (n + 1)).filter P = (zs.take n).filter P ++ (if P x = true then [x] else []) := by
        rw [List.take_add_one, hx, List.filter_append]
        congr 1
        show List.filter P [x] = _
        rw [List.filter_cons, List.filter_nil]
      rw [e1, e2, h n x hx]
      refine ⟨?_, fun {β} u w q => ?_⟩
      · rw [List.length_append, List.length_append, a]
        split <;> rfl
      · rw [List.map_append, List.map_append, b u w q]
        split
        · rw [List.map_cons, List.map_cons, q n x hx]; rfl
        · rfl
  have := key zs.length (Nat.le_refl _)
  rw [List.take_length] at this
  exact this
def relLF (ds : List PyData) (d : PyData) : Prop := ∃ (h : Harb) (ships : List Ship) (p : List Go), ds = [eHarb h, eShips ships, ePlan p] ∧ p.length ≤ ships.length ∧ ships.length ≤ 3 ∧ d = .bool (lawFits h ships p)
abbrev sLF : Stmt := topS 32
abbrev nLF : List Str := ["_law_harbour_here", "_law_ships_here", "_law_plan", "_law_hour", "_law_names", "_law_move", "_law_k"]
theorem scLF : FnScope nLF ["_law_harbour_here", "_law_ships_here", "_law_plan"] (defScope sLF) := ⟨rfl, rfl, rfl, by decide +kernel, rfl, by decide +kernel, by decide +kernel⟩
theorem all_false_at {α : Type} {P : α → Bool} : ∀ {l : List α}, l.all P = false → ∃ (t : Nat) (u : α), l[t]? = some u ∧ P u = false ∧ ∀ (t' : Nat) (u' : α), t' < t → l[t']? = some u' → P u' = true
  | [], h => by cases h
  | a :: l, h => by
    cases ha : P a with
    | false => exact ⟨0, a, rfl, ha, fun t' _ lt => absurd lt (Nat.not_lt_zero _)⟩
    | true =>
      rw [List.all_cons, ha, Bool.true_and] at h
      obtain ⟨t, u, h1, h2, h3⟩ := all_false_at h
      refine ⟨t + 1, u, by simpa using h1, h2, fun t' u' lt hu => ?_⟩
      cases t' with
      | zero =>
        have e : a = u' := by simpa using hu
        rw [← e]; exact ha
      | succ t' => exact h3 t' u' (by omega) (by simpa using hu)
theorem ok_LF {W : Wd} {f : Addr} {fd : FuncData} (F : Fun W.K "_law_fits" "_law_fits" sLF f fd) (hm : W.mg "_law_fits" = some (.ref f)) (bi : Binds W.K fd ["_law_harbour_here", "_law_ships_here", "_law_plan"] []) (g : Gs W) : Def W 1 "_law_fits" ["_law_harbour_here", "_law_ships_here", "_law_plan"] (spD W relLF) := by
  refine ok_def F scLF hm bi (fun ds d h => ?_) fun ds d h cdv A outer s H E fm => ?_
  · obtain ⟨h, ships, p, rfl, _⟩ := h; rfl
  · obtain ⟨h, ships, p, rfl, hp, h3, rfl⟩ := h
    have hp3 : p.length ≤ 3 := by omega
    have zl : (ships.zip p).length = p.length := by rw [List.length_zip]; omega
    -- the hours
    have hours : EX W (bodyF W nLF "_law_fits" (defScope sLF) f cdv A outer s H E) (match forSt 0 (defBody sLF) with | .For _ it _ _ _ => it | _ => .Constant .none 0 ⟨0, 0, 0, 0⟩) [.im (eHarb h), .im (eShips ships), .im (ePlan p), .un, .un, .un, .un] (.list (((p.map (·.f) ++ p.map (·.o)).mergeSort (fun a b => decide (a ≤ b))).map .int)) := by
      refine c_sortI fm g (ns := p.map (·.f) ++ p.map (·.o)) (by rw [List.length_append, List.length_map, List.length_map]; omega) (List.mergeSort_perm _ _) ?_ ((ex_op (od_cat (sz1000 (by rw [List.length_map, List.length_map]; omega))) (lc [("_law_move", 5)] (.nm 5) p eGo (fun x => .int x.f) fm (ix_lst fm (v 2 rfl)) (p1 5 (fm.blk _)) (fun x _ => ixT (fm.blk _) (v 5 rfl) k0 rfl) (sz1000 (by omega))).ex (lc [("_law_move", 5)] (.nm 5) p eGo (fun x => .int x.o) fm (ix_lst fm (v 2 rfl)) (p1 5 (fm.blk _)) (fun x _ => ixT (fm.blk _) (v 5 rfl) k0 rfl) (sz1000 (by omega))).ex).is ?_)
      · have := List.pairwise_mergeSort (le := fun (a b : Int) => decide (a ≤ b)) (fun a b c h1 h2 => by simp only [decide_eq_true_eq] at *; omega) (fun a b => by simp only [Bool.or_eq_true, decide_eq_true_eq]; omega) (p.map (·.f) ++ p.map (·.o))
        exact this.imp fun q => of_decide_eq_true q
      · rw [List.map_append, List.map_map, List.map_map]
        rfl
    -- one hour
    have body : ∀ (t : Int) (c : Bool) (o : Out), fitsAt h ships p t = c → (c = true → o = .nx [.im (eHarb h), .im (eShips ships), .im (ePlan p), .un, .un, .un, .un]) → (c = false → o = .rt (.bool false)) →
        BX W (bodyF W nLF "_law_fits" (defScope sLF) f cdv A outer s H E) (forSts (forSt 0 (defBody sLF))) [.im (eHarb h), .im (eShips ships), .im (ePlan p), .im (.int t), .un, .un, .un] o := fun t c o hf ho1 ho2 => by
      obtain ⟨ks, ek, lk, mk⟩ := filter_range (ships.zip p) (fun r => decide (t = r.2.f) || decide (t = r.2.o)) (fun k => decide (t = (p.getD k ⟨0, 0, 0⟩).f) || decide (t = (p.getD k ⟨0, 0, 0⟩).o)) (fun k r hr => by
        have := (zip_at hr).2
        rw [List.getD_eq_getElem?_getD, this]
        rfl)
      rw [zl] at ek
      have hks : ∀ k ∈ ks, k < p.length := fun k hk => by
        rw [← ek] at hk
        exact List.mem_range.mp (List.mem_filter.mp hk).1
      have hat : ∀ k, k < p.length → atI (p.map eGo) (k : Int) = some (eGo (p.getD k ⟨0, 0, 0⟩)) := fun k hk => atI_nat (by rw [List.getElem?_map, List.getD_eq_getElem?_getD, List.getElem?_eq_getElem hk]; rfl)
      have hsat : ∀ k, k < p.length → atI (ships.map eShip) (k : Int) = some (eShip (ships.getD k ⟨0, 0, 0, 0, 0, 0, 0⟩)) := fun k hk => atI_nat (by rw [List.getElem?_map, List.getD_eq_getElem?_getD, List.getElem?_eq_getElem (by omega)]; rfl)
      have esum : (ks.map fun k => PyData.int (ships.getD k ⟨0, 0, 0, 0, 0, 0, 0⟩).need) = (((ships.zip p).filter fun r => decide (t = r.2.f) || decide (t = r.2.o)).map fun r => r.1.need).map .int := by
        rw [List.map_map]
        refine mk _ _ fun k r hr => ?_
        have := (zip_at hr).1
        rw [List.getD_eq_getElem?_getD, this]
        rfl
      have kl : ks.length ≤ 1000 := by
        rw [lk]
        have := List.length_filter_le (fun r : Ship × Go => decide (t = r.2.f) || decide (t = r.2.o)) (ships.zip p)
        omega
      refine bx_cons (set_lcF 4 [("_law_k", 6)] (.nm 6) (List.range p.length) (fun (k : Nat) => .int k) (fun k => decide (t = (p.getD k ⟨0, 0, 0⟩).f) || decide (t = (p.getD k ⟨0, 0, 0⟩).o)) (fun k => .int k) fm ((irg fm g (c_len fm g (v 2 rfl)) (by omega) (by rw [List.length_map]; omega)).is (by rw [List.length_map]; rfl)) (p1 6 (fm.blk _))
        (fun k hk => ?_) (fun k _ _ => v 6 rfl) (sz1000 (by rw [List.length_range]; omega))) (bx_freeze 4 rfl ?_)
      · have hkl := List.mem_range.mp hk
        refine (eb_cmp (od_inI (fm.blk _) (ns := [(p.getD k ⟨0, 0, 0⟩).f, (p.getD k ⟨0, 0, 0⟩).o])) (v 3 rfl) (ex_lst (ea_cons (ixT (fm.blk _) (ixL (fm.blk _) (v 2 rfl) (v 6 rfl) (hat k hkl)) k0 rfl) (ea_cons (ixT (fm.blk _) (ixL (fm.blk _) (v 2 rfl) (v 6 rfl) (hat k hkl)) k0 rfl) ea_nil)))).is ?_
        show (decide _ || (decide _ || false)) = _
        rw [Bool.or_false, decide_eq_decide.mpr (eq_comm (a := (p.getD k ⟨0, 0, 0⟩).f)), decide_eq_decide.mpr (eq_comm (a := (p.getD k ⟨0, 0, 0⟩).o))]
      rw [ek]
      have test : EB W (bodyF W nLF "_law_fits" (defScope sLF) f cdv A outer s H E) (match forSt 1 (forSts (forSt 0 (defBody sLF))) with | .If e _ _ _ => e | _ => .Constant .none 0 ⟨0, 0, 0, 0⟩) [.im (eHarb h), .im (eShips ships), .im (ePlan p), .im (.int t), .im (.list (ks.map fun (k : Nat) => PyData.int (k : Int))), .un, .un] (!fitsAt h ships p t) := by
        refine (eb_w (ew_or (eb_cmp od_gt (c_len fm g (v 4 rfl)) (ixT fm (v 0 rfl) k0 rfl)) (fun _ => ew_or1 (eb_cmp od_gt (c_sum fm g ((lc [("_law_k", 6)] (.nm 6) ks (fun (k : Nat) => .int k) (fun k => .int (ships.getD k ⟨0, 0, 0, 0, 0, 0, 0⟩).need) fm (ix_lst fm (v 4 rfl)) (p1 6 (fm.blk _)) (fun k hk => ixT (fm.blk _) (ixL (fm.blk _) (v 1 rfl) (v 6 rfl) (hsat k (hks k hk))) k0 rfl) (sz1000 kl)).ex.is (by rw [esum]))) (ixT fm (v 0 rfl) k0 rfl))))).is ?_
        unfold fitsAt
        rw [Bool.not_not, List.length_map, lk]
      cases c with
      | true =>
        rw [ho1 rfl]
        refine bx_wk (bx_one (sx_ifF (test.is (by rw [hf]; rfl)) bx_nil)) (.same (.same (.same (.un (.un (.same (.same .nil)))))))
      | false =>
        rw [ho2 rfl]
        exact bx_end (sx_ifT (test.is (by rw [hf]; rfl)) (bx_one (sx_ret ex_bl)))
    unfold lawFits
    cases hall : ((p.map (·.f) ++ p.map (·.o)).mergeSort (fun a b => decide (a ≤ b))).all (fitsAt h ships p) with
    | true =>
      refine bx_cons (sx_forL ((p.map (·.f) ++ p.map (·.o)).mergeSort (fun a b => decide (a ≤ b))) .int (fun t => [.im (eHarb h), .im (eShips ships), .im (ePlan p), .un, .un, .un, .un]) rfl (ix_lst fm hours) fm (p1 3 fm) (fun t u hu => body u true _ (List.all_eq_true.mp hall u (List.mem_of_getElem? hu)) (fun _ => rfl) (fun z => nomatch z))) (bx_one (sx_ret ex_bl))
    | false =>
      obtain ⟨t0, u0, k1, k2, k3⟩ := all_false_at hall
      exact bx_end (sx_forLR ((p.map (·.f) ++ p.map (·.o)).mergeSort (fun a b => decide (a ≤ b))) .int (fun t => [.im (eHarb h), .im (eShips ships), .im (ePlan p), .un, .un, .un, .un]) t0 u0 k1 rfl (ix_lst fm hours) fm (p1 3 fm) (fun t u lt hu => body u true _ (k3 t u lt hu) (fun _ => rfl) (fun z => nomatch z)) (body u0 false _ k2 (fun z => nomatch z) (fun _ => rfl)))
/-! ### _law_cost -/
def relLC (ds : List PyData) (d : PyData) : Prop := ∃ (ships : List Ship) (p : List Go), ds = [eShips ships, ePlan p] ∧ p.length ≤ ships.length ∧ p.length ≤ 1000 ∧ (∀ s ∈ ships, (-(2 ^ 64) < s.sea ∧ s.sea < 2 ^ 64) ∧ (-(2 ^ 64) < s.lie ∧ s.lie < 2 ^ 64)) ∧ d = .int (lawCost ships p)
abbrev sLC : Stmt := topS 34
abbrev nLC : List Str := ["_law_ships_here", "_law_plan", "_law_total", "_law_k"]
theorem scLC : FnScope nLC ["_law_ships_here", "_law_plan"] (defScope sLC) := ⟨rfl, rfl, rfl, by decide +kernel, rfl, by decide +kernel, by decide +kernel⟩
theorem ok_LC {W : Wd} {f : Addr} {fd : FuncData} (F : Fun W.K "_law_cost" "_law_cost" sLC f fd) (hm : W.mg "_law_cost" = some (.ref f)) (bi : Binds W.K fd ["_law_ships_here", "_law_plan"] []) (g : Gs W) : Def W 1 "_law_cost" ["_law_ships_here", "_law_plan"] (spD W relLC) := by
  refine ok_def F scLC hm bi (fun ds d h => ?_) fun ds d h cdv A outer s H E fm => ?_
  · obtain ⟨ships, p, rfl, _⟩ := h; rfl
  · obtain ⟨ships, p, rfl, hp, h1000, hb, rfl⟩ := h
    have zl : (ships.zip p).length = p.length := by rw [List.length_zip]; omega
    refine bx_cons (put 2 fm k0) (bx_cons (sx_forL (List.range p.length) (fun (k : Nat) => .int k) (fun t => [.im (eShips ships), .im (ePlan p), .im (.int ((((ships.zip p).take t).map fun r => r.1.sea * (r.2.f - r.1.ready) + r.1.lie * (r.2.o - r.2.f - 1 - r.1.stay)).sum)), .un]) rfl
      ((irg fm g (c_len fm g (v 1 rfl)) (by omega) (by rw [List.length_map]; omega)).is (by rw [List.length_map]; rfl)) fm (p1 3 fm) (fun t k hk => ?_)) (bx_one (sx_ret ((v 2 rfl).is ?_))))
    · have ek : k = t := by
        obtain ⟨a, b⟩ := List.getElem?_eq_some_iff.mp hk
        rw [List.getElem_range] at b
        exact b.symm
      subst ek
      have tl := at_lt hk
      rw [List.length_range] at tl
      obtain ⟨r, hr⟩ := at_of (l := ships.zip p) (i := k) (by omega)
      obtain ⟨r1, r2⟩ := zip_at hr
      rw [map_take1 hr, List.sum_append_int]
      generalize (((ships.zip p).take k).map fun r => r.1.sea * (r.2.f - r.1.ready) + r.1.lie * (r.2.o - r.2.f - 1 - r.1.stay)).sum = c
      obtain ⟨sh, q⟩ := r
      have a1 : atI (ships.map eShip) (k : Int) = some (eShip sh) := atI_nat (by rw [List.getElem?_map, r1]; rfl)
      have a2 : atI (p.map eGo) (k : Int) = some (eGo q) := atI_nat (by rw [List.getElem?_map, r2]; rfl)
      obtain ⟨b1, b2⟩ := hb sh (List.mem_of_getElem? r1)
      have e : c + [sh.sea * (q.f - sh.ready) + sh.lie * (q.o - q.f - 1 - sh.stay)].sum = c + sh.sea * (q.f - sh.ready) + sh.lie * (q.o - q.f - 1 - sh.stay) := by
        simp only [List.sum_cons, List.sum_nil]
        omega
      rw [show ([sh.sea * (q.f - sh.ready) + sh.lie * (q.o - q.f - 1 - sh.stay)] : List Int) = [sh.sea * (q.f - sh.ready) + sh.lie * (q.o - q.f - 1 - sh.stay)] from rfl]
      show BX W _ _ _ (.nx [.im (eShips ships), .im (ePlan p), .im (.int (c + [sh.sea * (q.f - sh.ready) + sh.lie * (q.o - q.f - 1 - sh.stay)].sum)), .un])
      rw [e]
      refine bx_wk (Γ2 := [.im (eShips ships), .im (ePlan p), .im (.int (c + sh.sea * (q.f - sh.ready) + sh.lie * (q.o - q.f - 1 - sh.stay))), .im (.int k)]) ?_ (.same (.same (.same (.un .nil))))
      refine bx_cons (put 2 fm (ex_op od_add (v 2 rfl) (ex_op (od_mul (.inl b1)) (ixT fm (ixL fm (v 0 rfl) (v 3 rfl) a1) k0 rfl) (ex_op od_sub (ixT fm (ixL fm (v 1 rfl) (v 3 rfl) a2) k0 rfl) (ixT fm (ixL fm (v 0 rfl) (v 3 rfl) a1) k0 rfl))))) ?_
      exact bx_one (put 2 fm (ex_op od_add (v 2 rfl) (ex_op (od_mul (.inl b2)) (ixT fm (ixL fm (v 0 rfl) (v 3 rfl) a1) k0 rfl) (ex_op od_sub (ex_op od_sub (ex_op od_sub (ixT fm (ixL fm (v 1 rfl) (v 3 rfl) a2) k0 rfl) (ixT fm (ixL fm (v 1 rfl) (v 3 rfl) a2) k0 rfl)) k0) (ixT fm (ixL fm (v 0 rfl) (v 3 rfl) a1) k0 rfl)))))
    · rw [List.length_range, ← zl, List.take_length]
      rfl
/-! ### _law_product -/
def relLP (ds : List PyData) (d : PyData) : Prop := relProduct ds d
abbrev sLP : Stmt := topS 35
abbrev nLP : List Str := ["_law_lists", "_law_found", "_law_row", "_law_longer", "_law_one", "_law_way"]
theorem scLP : FnScope nLP ["_law_lists"] (defScope sLP) := ⟨rfl, rfl, rfl, by decide +kernel, rfl, by decide +kernel, by decide +kernel⟩
theorem ok_LP {W : Wd} {f : Addr} {fd : FuncData} (F : Fun W.K "_law_product" "_law_product" sLP f fd) (hm : W.mg "_law_product" = some (.ref f)) (bi : Binds W.K fd ["_law_lists"] []) (g : Gs W) : Def W 1 "_law_product" ["_law_lists"] (spD W relProduct) := by
  refine ok_def F scLP hm bi (fun ds d h => ?_) fun ds d h cdv A outer s H E fm => ?_
  · obtain ⟨rows, rfl, _⟩ := h; rfl
  · obtain ⟨rows, rfl, hr, h3, rfl⟩ := h
    refine bx_cons (put 1 fm (ex_lst (ea_cons (ex_tup ea_nil) ea_nil))) (bx_cons (sx_forL rows .list (fun t => [.im (.list (rows.map .list)), .im (.list ((prod (rows.take t)).map .tuple)), .un, .un, .un, .un]) rfl (ix_lst fm (v 0 rfl)) fm (p1 2 fm) (fun t r hrow => ?_)) (bx_one (sx_ret ((v 1 rfl).is (by rw [List.take_length])))))
    have hrl : r.length ≤ 10 := hr r (List.mem_of_getElem? hrow)
    have hst : (prod (rows.take t)).length * 10 ≤ 1000 := by
      have hlt := at_lt hrow
      have h1 := prod_len hr t (Nat.le_of_lt hlt)
      have h2 : 10 ^ t ≤ 10 ^ 2 := Nat.pow_le_pow_right (by decide) (by omega)
      omega
    have e1 : ((prod (rows.take t)).flatMap fun one => r.map fun e => PyData.tuple (one ++ [e])) = (prod (rows.take (t + 1))).map .tuple := by
      rw [prod_take hrow, List.map_flatMap]
      congr 1
      funext one
      rw [List.map_map]
      rfl
    refine bx_wk (Γ2 := [.im (.list (rows.map .list)), .im (.list ((prod (rows.take (t + 1))).map .tuple)), .im (.list r), .im (.list ((prod (rows.take (t + 1))).map .tuple)), .un, .un]) ?_ (.same (.same (.un (.un (.same (.same .nil))))))
    rw [← e1]
    refine bx_cons (put 3 fm (ex_lst ea_nil)) (bx_cons (sx_forL (prod (rows.take t)) .tuple (fun u => [.im (.list (rows.map .list)), .im (.list ((prod (rows.take t)).map .tuple)), .im (.list r), .im (.list (((prod (rows.take t)).take u).flatMap fun one => r.map fun e => PyData.tuple (one ++ [e]))), .un, .un]) rfl (ix_lst fm (v 1 rfl)) fm (p1 4 fm) (fun u one hone => ?_)) ?_)
    · refine bx_wk (Γ2 := [.im (.list (rows.map .list)), .im (.list ((prod (rows.take t)).map .tuple)), .im (.list r), .im (.list (((prod (rows.take t)).take (u + 1)).flatMap fun one => r.map fun e => PyData.tuple (one ++ [e]))), .im (.tuple one), .un]) ?_ (.same (.same (.same (.same (.un (.same .nil))))))
      rw [flat_take hone]
      have hol : one.length ≤ 3 := by
        have hlt := at_lt hrow
        rw [prod_memlen t (Nat.le_of_lt hlt) one (List.mem_of_getElem? hone)]
        omega
      refine bx_one (put 3 fm (ex_op (od_cat ?_) (v 3 rfl) (lc [("_law_way", 5)] (.nm 5) r id (fun e => PyData.tuple (one ++ [e])) fm ((ix_lst fm (v 2 rfl)).is (by rw [List.map_id])) (p1 5 (fm.blk _)) (fun e _ => ex_op (od_catT (fm.blk _) (sz1000 (by rw [List.length_cons, List.length_nil]; omega))) (v 4 rfl) (ex_tup (ea_cons (v 5 rfl) ea_nil))) (sz1000 (by omega))).ex))
      have h1 : (((prod (rows.take t)).take u).flatMap fun one => r.map fun e => PyData.tuple (one ++ [e])).length ≤ ((prod (rows.take t)).take u).length * 10 := len_flat fun x _ => by rw [List.length_map]; exact hrl
      have h2 : ((prod (rows.take t)).take u).length = u := by rw [List.length_take]; have := at_lt hone; omega
      have h4 := at_lt hone
      rw [List.length_map]
      exact sz1000 (by omega)
    · rw [List.take_length]
      exact bx_one (put 1 fm (v 3 rfl))
/-! ### _law_all_comings -/
def relAC (ds : List PyData) (d : PyData) : Prop := ∃ (ships : List Ship) (spans : List Int), ds = [eShips ships, eInts spans] ∧ ships.length = spans.length ∧ ships.length ≤ 3 ∧ (∀ n ∈ spans, 0 ≤ n ∧ n ≤ 4) ∧ (∀ s ∈ ships, 0 ≤ s.ready ∧ s.ready ≤ 100) ∧ d = .list ((lawComings ships spans).map eMove)
abbrev sAC : Stmt := topS 37
abbrev nAC : List Str := ["_law_ships_here", "_law_spans", "_law_k"]
theorem scAC : FnScope nAC ["_law_ships_here", "_law_spans"] (defScope sAC) := ⟨rfl, rfl, rfl, by decide +kernel, rfl, by decide +kernel, by decide +kernel⟩
theorem getD_at {α : Type} {l : List α} {k : Nat} {d x : α} (h : l[k]? = some x) : l.getD k d = x := by rw [List.getD_eq_getElem?_getD, h]; rfl
theorem range_map {α β : Type} (zs : List α) (u : Nat → β) (w : α → β) (h : ∀ (k : Nat) (x : α), zs[k]? = some x → u k = w x) : (List.range zs.length).map u = zs.map w := by
  apply List.ext_getElem?
  intro i
  by_cases hi : i < zs.length
  · obtain ⟨x, hx⟩ := at_of hi
    rw [List.getElem?_map, List.getElem?_map, List.getElem?_range hi, hx]
    show some (u i) = some (w x)
    rw [h i x hx]
  · rw [List.getElem?_eq_none (by rw [List.length_map, List.length_range]; omega), List.getElem?_eq_none (by rw [List.length_map]; omega)]
theorem ok_AC {W : Wd} {f : Addr} {fd : FuncData} (F : Fun W.K "_law_all_comings" "_law_all_comings" sAC f fd) (hm : W.mg "_law_all_comings" = some (.ref f)) (bi : Binds W.K fd ["_law_ships_here", "_law_spans"] []) (g : Gs W) (DP : Def W 1 "_law_product" ["_law_lists"] (spD W relProduct)) : Def W 2 "_law_all_comings" ["_law_ships_here", "_law_spans"] (spD W relAC) := by
  refine ok_def F scAC hm bi (fun ds d h => ?_) fun ds d h cdv A outer s H E fm => ?_
  · obtain ⟨ships, spans, rfl, _⟩ := h; rfl
  · obtain ⟨ships, spans, rfl, hl, h3, hn, hr, rfl⟩ := h
    have zl : (ships.zip spans).length = ships.length := by rw [List.length_zip]; omega
    have er : ((List.range ships.length).map fun (k : Nat) => PyData.list ((List.range ((ships.getD k ⟨0, 0, 0, 0, 0, 0, 0⟩).ready + spans.getD k 0 + 1 - (ships.getD k ⟨0, 0, 0, 0, 0, 0, 0⟩).ready).toNat).map fun (t : Nat) => PyData.int ((ships.getD k ⟨0, 0, 0, 0, 0, 0, 0⟩).ready + t))) = ((spanRows ships spans).map (List.map PyData.int)).map .list := by
      rw [← zl]
      unfold spanRows
      rw [List.map_map, List.map_map]
      refine range_map _ _ _ fun k r hr => ?_
      obtain ⟨r1, r2⟩ := zip_at hr
      rw [getD_at r1, getD_at r2]
      show PyData.list _ = PyData.list (((List.range (r.2 + 1).toNat).map fun (t : Nat) => r.1.ready + t).map .int)
      rw [List.map_map, show r.1.ready + r.2 + 1 - r.1.ready = r.2 + 1 by omega]
      rfl
    refine bx_one (sx_ret (call fm DP (ea_cons ((lc [("_law_k", 2)] (.nm 2) (List.range ships.length) (fun (k : Nat) => .int k) (fun k => PyData.list ((List.range ((ships.getD k ⟨0, 0, 0, 0, 0, 0, 0⟩).ready + spans.getD k 0 + 1 - (ships.getD k ⟨0, 0, 0, 0, 0, 0, 0⟩).ready).toNat).map fun (t : Nat) => PyData.int ((ships.getD k ⟨0, 0, 0, 0, 0, 0, 0⟩).ready + t))) fm
      ((irg fm g (c_len fm g (v 0 rfl)) (by omega) (by rw [List.length_map]; omega)).is (by rw [List.length_map]; rfl)) (p1 2 (fm.blk _)) (fun k hk => ?_) (sz1000 (by rw [List.length_range]; omega))).ex) ea_nil) ⟨(spanRows ships spans).map (List.map PyData.int), by rw [er], fun r hr => ?_, ?_, ?_⟩))
    · have hk' := List.mem_range.mp hk
      have a1 : atI (ships.map eShip) (k : Int) = some (eShip (ships.getD k ⟨0, 0, 0, 0, 0, 0, 0⟩)) := atI_nat (by rw [List.getElem?_map, List.getD_eq_getElem?_getD, List.getElem?_eq_getElem hk']; rfl)
      have a2 : atI (spans.map PyData.int) (k : Int) = some (.int (spans.getD k 0)) := atI_nat' (by omega)
      obtain ⟨x, hx⟩ := at_of (l := ships) (i := k) hk'
      obtain ⟨n, hn'⟩ := at_of (l := spans) (i := k) (by omega)
      have q1 := hr x (List.mem_of_getElem? hx)
      have q2 := hn n (List.mem_of_getElem? hn')
      have rr : (ships.getD k ⟨0, 0, 0, 0, 0, 0, 0⟩) = x := getD_at hx
      have rn : spans.getD k 0 = n := getD_at hn'
      refine ex_listRg2 (fm.blk _) (fun _ => rfl) g.list (fun _ => rfl) g.range (ixT (fm.blk _) (ixL (fm.blk _) (v 0 rfl) (v 2 rfl) a1) k0 rfl) (ex_op od_add (ex_op od_add (ixT (fm.blk _) (ixL (fm.blk _) (v 0 rfl) (v 2 rfl) a1) k0 rfl) (ixL (fm.blk _) (v 1 rfl) (v 2 rfl) a2)) k0) ?_
      rw [rr, rn]
      unfold RgOk
      refine ⟨?_, ?_⟩ <;> omega
    · obtain ⟨q, hq, rfl⟩ := List.mem_map.mp hr
      obtain ⟨q2, hq2, rfl⟩ := List.mem_map.mp hq
      rw [List.length_map, List.length_map, List.length_range]
      have := hn q2.2 (List.of_mem_zip hq2).2
      omega
    · rw [List.length_map]
      unfold spanRows
      rw [List.length_map, zl]
      exact h3
    · rw [prod_map, List.map_map]
      rfl
/-! ### _law_is_whole, _law_at -/
def relIW (ds : List PyData) (d : PyData) : Prop := ∃ a b : Option Int, ds = [eOpt a, eOpt b] ∧ d = .bool (decide (a = b))
abbrev sIW : Stmt := topS 38
abbrev nIW : List Str := ["_law_actual", "_law_due"]
theorem scIW : FnScope nIW ["_law_actual", "_law_due"] (defScope sIW) := ⟨rfl, rfl, rfl, by decide +kernel, rfl, by decide +kernel, by decide +kernel⟩
theorem ok_IW {W : Wd} {f : Addr} {fd : FuncData} (F : Fun W.K "_law_is_whole" "_law_is_whole" sIW f fd) (hm : W.mg "_law_is_whole" = some (.ref f)) (bi : Binds W.K fd ["_law_actual", "_law_due"] []) (g : Gs W) : Def W 1 "_law_is_whole" ["_law_actual", "_law_due"] (spD W relIW) := by
  refine ok_def F scIW hm bi (fun ds d h => ?_) fun ds d h cdv A outer s H E fm => ?_
  · obtain ⟨a, b, rfl, _⟩ := h; rfl
  · obtain ⟨a, b, rfl, rfl⟩ := h
    refine bx_ifr (eb_w (ew_or (eb_cmp od_isN (v 1 rfl) ex_non) (fun _ => ew_or1 (eb_cmp od_isN (v 0 rfl) ex_non)))) (fun c => bx_one (sx_ret ((ex_and (ex_cmp od_isN (v 1 rfl) ex_non) (fun _ => ex_one (ex_cmp od_isN (v 0 rfl) ex_non))).is ?_))) (fun c => ?_)
    · rw [isN_opt, isN_opt] at c ⊢
      cases a <;> cases b <;> first | rfl | cases c
    · rw [isN_opt, isN_opt] at c
      cases a with
      | none => cases b <;> cases c
      | some i =>
        cases b with
        | none => cases c
        | some j =>
          refine bx_one (sx_ret ((ex_and (ex_isi (T := "int") (T' := "int") (c := true) fm (fun _ => rfl) g.isinstance (fun _ => rfl) g.int bt_int (by decide +kernel) (v 0 rfl)) (fun _ => ex_and (ex_not (ex_isi (T := "bool") (T' := "bool") (c := false) fm (fun _ => rfl) g.isinstance (fun _ => rfl) g.bool bt_bool (by decide +kernel) (v 0 rfl))) (fun _ => ex_one (ex_cmp od_eqI (v 0 rfl) (v 1 rfl))))).is ?_))
          show PyData.bool (decide (i = j)) = _
          congr 1
          rw [Bool.eq_iff_iff, decide_eq_true_eq, decide_eq_true_eq]
          exact ⟨fun e => congrArg some e, fun e => Option.some.inj e⟩
def relLAt (ds : List PyData) (d : PyData) : Prop := ∃ (ships : List Ship) (c : List Int), ds = [eShips ships, eMove c] ∧ c.length = ships.length ∧ ships.length ≤ 3 ∧ d = eShips (shipsAt ships c)
abbrev sLAt : Stmt := topS 39
abbrev nLAt : List Str := ["_law_ships_here", "_law_coming", "_law_k"]
theorem scLAt : FnScope nLAt ["_law_ships_here", "_law_coming"] (defScope sLAt) := ⟨rfl, rfl, rfl, by decide +kernel, rfl, by decide +kernel, by decide +kernel⟩
theorem ok_LAt {W : Wd} {f : Addr} {fd : FuncData} (F : Fun W.K "_law_at" "_law_at" sLAt f fd) (hm : W.mg "_law_at" = some (.ref f)) (bi : Binds W.K fd ["_law_ships_here", "_law_coming"] []) (g : Gs W) : Def W 1 "_law_at" ["_law_ships_here", "_law_coming"] (spD W relLAt) := by
  refine ok_def F scLAt hm bi (fun ds d h => ?_) fun ds d h cdv A outer s H E fm => ?_
  · obtain ⟨ships, c, rfl, _⟩ := h; rfl
  · obtain ⟨ships, c, rfl, hl, h3, rfl⟩ := h
    have zl : (ships.zip c).length = ships.length := by rw [List.length_zip]; omega
    refine bx_one (sx_ret ((lc [("_law_k", 2)] (.nm 2) (List.range ships.length) (fun (k : Nat) => .int k) (fun k => eShip { ships.getD k ⟨0, 0, 0, 0, 0, 0, 0⟩ with ready := c.getD k 0 }) fm
      ((irg fm g (c_len fm g (v 0 rfl)) (by omega) (by rw [List.length_map]; omega)).is (by rw [List.length_map]; rfl)) (p1 2 (fm.blk _)) (fun k hk => ?_) (sz1000 (by rw [List.length_range]; omega))).ex.is ?_))
    · have hk' := List.mem_range.mp hk
      have a1 : atI (ships.map eShip) (k : Int) = some (eShip (ships.getD k ⟨0, 0, 0, 0, 0, 0, 0⟩)) := atI_nat (by rw [List.getElem?_map, List.getD_eq_getElem?_getD, List.getElem?_eq_getElem hk']; rfl)
      have a2 : atI (c.map PyData.int) (k : Int) = some (.int (c.getD k 0)) := atI_nat' (by omega)
      exact (ex_op (od_catT (fm.blk _) (Nat.le_of_ble_eq_true rfl)) (ex_tup (ea_cons (ixT (fm.blk _) (v 1 rfl) (v 2 rfl) a2) ea_nil)) (ex_sliceT (fm.blk _) (ixL (fm.blk _) (v 0 rfl) (v 2 rfl) a1) (eo_some k0) eo_none)).is rfl
    · unfold eShips shipsAt
      rw [List.map_map, ← zl]
      congr 1
      refine range_map _ _ _ fun k r hr => ?_
      obtain ⟨r1, r2⟩ := zip_at hr
      rw [getD_at r1, getD_at r2]
      rfl
end TW
namespace TW
open PySem PySem.Spec PyProof.Rows L2
/-! ### _law_plans -/
theorem alike_go (x y : Go) : PySem.W.alike (eGo x) (eGo y) = true := rfl
theorem alike_gos : ∀ p q : List Go, PySem.W.alikeAll (p.map eGo) (q.map eGo) = true
  | [], _ => rfl
  | _ :: _, [] => rfl
  | x :: p, y :: q => by
    show (PySem.W.alike (eGo x) (eGo y) && PySem.W.alikeAll (p.map eGo) (q.map eGo)) = true
    rw [alike_go, alike_gos p q]
    rfl
theorem depth_gos : ∀ p : List Go, PyData.depthAll (p.map eGo) ≤ 2
  | [] => Nat.zero_le _
  | x :: p => by
    show max (eGo x).depth (PyData.depthAll (p.map eGo)) ≤ 2
    exact Nat.max_le.mpr ⟨Nat.le_of_ble_eq_true rfl, depth_gos p⟩
theorem srt_plan {ps : List (List Go)} (h : ps.length ≤ sizeLine) : SrtOk ePlan ps :=
  ⟨PySem.W.AllAlike.of fun p q => alike_gos p q, PySem.W.Sortable.others fun p => ⟨(by intro z; cases z), (by intro xs z; cases z)⟩, h, fun p _ => by
    show PyData.depthAll (p.map eGo) + 1 ≤ 50
    have := depth_gos p
    omega⟩
def plansT (h : Harb) (ships : List Ship) (t : Nat) : List (List Go) := (ships.take t).foldl (planStep h ships) [[]]
theorem plansT_succ {h : Harb} {ships : List Ship} {t : Nat} {s : Ship} (hs : ships[t]? = some s) : plansT h ships (t + 1) = planStep h ships (plansT h ships t) s := by
  unfold plansT
  rw [List.take_add_one, hs, List.foldl_append]
  rfl
def longer (h : Harb) (s : Ship) (ps : List (List Go)) : List (List Go) := (lawMoves h s).flatMap fun g => (ps.filter fun p => p.all (lawApart g)).map fun p => p ++ [g]
theorem longer_len {h : Harb} {s : Ship} {ps : List (List Go)} (h2 : h.berths.length ≤ 2) (h6 : h.last ≤ 6) : (longer h s ps).length ≤ 98 * ps.length := by
  unfold longer
  refine Nat.le_trans (len_flat (b := ps.length) fun g _ => ?_) (Nat.mul_le_mul_right _ (lawMoves_len h2 h6))
  rw [List.length_map]
  exact List.length_filter_le _ _
theorem plans_small {h : Harb} {ships : List Ship} (h2 : h.berths.length ≤ 2) (h6 : h.last ≤ 6) : ∀ t, t ≤ ships.length → (plansT h ships t).length ≤ 98 ^ t ∧ ∀ p ∈ plansT h ships t, p.length = t
  | 0, _ => ⟨by simp [plansT], fun p hp => by
    have : p = [] := by simpa [plansT] using hp
    rw [this]; rfl⟩
  | t + 1, ht => by
    obtain ⟨s, hs⟩ := at_of (l := ships) (i := t) ht
    obtain ⟨a, b⟩ := plans_small h2 h6 t (Nat.le_of_succ_le ht)
    rw [plansT_succ hs]
    refine ⟨?_, fun p hp => ?_⟩
    · refine Nat.le_trans (List.length_filter_le _ _) (Nat.le_trans (longer_len h2 h6) ?_)
      rw [Nat.pow_succ, Nat.mul_comm]
      exact Nat.mul_le_mul_right _ a
    · obtain ⟨g, _, hp⟩ := List.mem_flatMap.mp (List.mem_filter.mp hp).1
      obtain ⟨q, hq, rfl⟩ := List.mem_map.mp hp
      rw [List.length_append, b q (List.mem_filter.mp hq).1]
      rfl
theorem plansT_all {h : Harb} {ships : List Ship} : plansT h ships ships.length = lawPlans0 h ships := by
  unfold plansT lawPlans0
  rw [List.take_length]
def relPl (ds : List PyData) (d : PyData) : Prop := ∃ (h : Harb) (ships : List Ship), ds = [eHarb h, eShips ships] ∧ 1 ≤ h.depths.length ∧ h.berths.length ≤ 2 ∧ 0 ≤ h.last ∧ h.last ≤ 6 ∧ ships.length ≤ 2 ∧ d = .list (((lawPlans0 h ships).mergeSort (PySem.W.dataLe false ePlan)).map ePlan)
abbrev sPl : Stmt := topS 33
abbrev nPl : List Str := ["_law_harbour_here", "_law_ships_here", "_law_plans_here", "_law_ship_here", "_law_longer", "_law_move", "_law_plan", "_law_other"]
theorem scPl : FnScope nPl ["_law_harbour_here", "_law_ships_here"] (defScope sPl) := ⟨rfl, rfl, rfl, by decide +kernel, rfl, by decide +kernel, by decide +kernel⟩
theorem ok_Pl {W : Wd} {f : Addr} {fd : FuncData} (F : Fun W.K "_law_plans" "_law_plans" sPl f fd) (hm : W.mg "_law_plans" = some (.ref f)) (bi : Binds W.K fd ["_law_harbour_here", "_law_ships_here"] []) (g : Gs W)
    (DM : Def W 1 "_law_moves" ["_law_harbour_here", "_law_ship_here"] (spD W relLM)) (DA : Def W 1 "_law_apart" ["_law_one", "_law_other"] (spD W relLA)) (DF : Def W 1 "_law_fits" ["_law_harbour_here", "_law_ships_here", "_law_plan"] (spD W relLF)) : Def W 2 "_law_plans" ["_law_harbour_here", "_law_ships_here"] (spD W relPl) := by
  refine ok_def F scPl hm bi (fun ds d h => ?_) fun ds d h cdv A outer s H E fm => ?_
  · obtain ⟨h, ships, rfl, _⟩ := h; rfl
  · obtain ⟨h, ships, rfl, h0, h2, l0, l6, hs2, rfl⟩ := h
    have big : (1000000 : Nat) ≤ sizeLine := by decide
    have sm : ∀ t, t ≤ ships.length → (plansT h ships t).length ≤ 9604 := fun t ht => by
      refine Nat.le_trans (plans_small h2 l6 t ht).1 ?_
      have e : (9604 : Nat) = 98 ^ 2 := rfl
      rw [e]
      exact Nat.pow_le_pow_right (by decide) (by omega)
    refine bx_cons (put 2 fm (ex_lst (ea_cons (ex_lst ea_nil) ea_nil))) (bx_cons (sx_forL ships eShip (fun t => [.im (eHarb h), .im (eShips ships), .im (.list ((plansT h ships t).map ePlan)), .un, .un, .un, .un, .un]) rfl (ix_lst fm (v 1 rfl)) fm (p1 3 fm) (fun t sh hsh => ?_)) (bx_one (sx_ret ?_)))
    · have ht := at_lt hsh
      have pl := (plans_small h2 l6 t (Nat.le_of_lt ht)).2
      have pn' := sm t (Nat.le_of_lt ht)
      rw [plansT_succ hsh]
      have ll : (longer h sh (plansT h ships t)).length ≤ 98 * (plansT h ships t).length := longer_len h2 l6
      have llen : ∀ p ∈ longer h sh (plansT h ships t), p.length = t + 1 := fun p hp => by
        obtain ⟨gg, _, hp⟩ := List.mem_flatMap.mp hp
        obtain ⟨q, hq, rfl⟩ := List.mem_map.mp hp
        rw [List.length_append, pl q (List.mem_filter.mp hq).1]
        rfl
      show BX W _ _ _ (.nx [.im (eHarb h), .im (eShips ships), .im (.list (((longer h sh (plansT h ships t)).filter (lawFits h ships)).map ePlan)), .un, .un, .un, .un, .un])
      unfold longer at ll llen ⊢
      generalize plansT h ships t = ps at pl pn' ll llen
      refine bx_wk (Γ2 := [.im (eHarb h), .im (eShips ships), .im (.list ((((lawMoves h sh).flatMap fun g => (ps.filter fun p => p.all (lawApart g)).map fun p => p ++ [g]).filter (lawFits h ships)).map ePlan)), .im (eShip sh), .im (.list (((lawMoves h sh).flatMap fun g => (ps.filter fun p => p.all (lawApart g)).map fun p => p ++ [g]).map ePlan)), .un, .un, .un]) ?_ (.same (.same (.same (.un (.un (.same (.same (.same .nil))))))))
      refine bx_cons (putL 4 fm (el_lst ea_nil)) (bx_cons (Γ1 := [.im (eHarb h), .im (eShips ships), .im (.list (ps.map ePlan)), .im (eShip sh), .mu (((lawMoves h sh).flatMap fun g => (ps.filter fun p => p.all (lawApart g)).map fun p => p ++ [g]).map ePlan), .un, .un, .un])
        ((sx_forL (lawMoves h sh) eGo (fun u => [.im (eHarb h), .im (eShips ships), .im (.list (ps.map ePlan)), .im (eShip sh), .mu ((((lawMoves h sh).take u).flatMap fun g => (ps.filter fun p => p.all (lawApart g)).map fun p => p ++ [g]).map ePlan), .un, .un, .un]) rfl
          (ix_lst fm (call fm DM (ea_cons (v 0 rfl) (ea_cons (v 3 rfl) ea_nil)) ⟨h, sh, rfl, h0, h2, l0, l6, rfl⟩)) fm (p1 5 fm) (fun u gg hgg => ?_)).is (by rw [List.take_length])) (bx_freeze 4 rfl ?_))
      · refine bx_wk (Γ2 := [.im (eHarb h), .im (eShips ships), .im (.list (ps.map ePlan)), .im (eShip sh), .mu ((((lawMoves h sh).take (u + 1)).flatMap fun g => (ps.filter fun p => p.all (lawApart g)).map fun p => p ++ [g]).map ePlan), .im (eGo gg), .un, .un]) ?_ (.same (.same (.same (.same (.same (.un (.same (.same .nil))))))))
        rw [flat_take hgg]
        have al : (((lawMoves h sh).take u).flatMap fun g => (ps.filter fun p => p.all (lawApart g)).map fun p => p ++ [g]).length ≤ 98 * ps.length := by
          refine Nat.le_trans (len_flat (b := ps.length) fun g _ => ?_) (Nat.mul_le_mul_right _ ?_)
          · rw [List.length_map]
            exact List.length_filter_le _ _
          · have := lawMoves_len (s := sh) h2 l6
            rw [List.length_take]
            omega
        generalize (((lawMoves h sh).take u).flatMap fun g => (ps.filter fun p => p.all (lawApart g)).map fun p => p ++ [g]) = acc at al
        refine bx_one ((sx_forL ps ePlan (fun w => [.im (eHarb h), .im (eShips ships), .im (.list (ps.map ePlan)), .im (eShip sh), .mu ((acc ++ (((ps.take w).filter fun p => p.all (lawApart gg)).map fun p => p ++ [gg])).map ePlan), .im (eGo gg), .un, .un]) (by simp only [List.take_zero, List.filter_nil, List.map_nil, List.append_nil]; rfl) (ix_lst fm (v 2 rfl)) fm (p1 6 fm) (fun w p hp => ?_)).is (by rw [List.take_length]))
        refine bx_wk (Γ2 := [.im (eHarb h), .im (eShips ships), .im (.list (ps.map ePlan)), .im (eShip sh), .mu ((acc ++ (((ps.take (w + 1)).filter fun p => p.all (lawApart gg)).map fun p => p ++ [gg])).map ePlan), .im (eGo gg), .im (ePlan p), .un]) ?_ (.same (.same (.same (.same (.same (.same (.un (.same .nil))))))))
        have plen := pl p (List.mem_of_getElem? hp)
        have em : (((ps.take (w + 1)).filter fun p => p.all (lawApart gg)).map fun p => p ++ [gg]) = (((ps.take w).filter fun p => p.all (lawApart gg)).map fun p => p ++ [gg]) ++ (if p.all (lawApart gg) = true then [p ++ [gg]] else []) := by
          rw [List.take_add_one, hp, List.filter_append, List.map_append]
          congr 1
          show List.map _ (List.filter _ [p]) = _
          rw [List.filter_cons, List.filter_nil]
          split <;> rfl
        rw [em, ← List.append_assoc]
        have bl : (acc ++ (((ps.take w).filter fun p => p.all (lawApart gg)).map fun p => p ++ [gg])).length ≤ 98 * ps.length + ps.length := by
          have := List.length_filter_le (fun p : List Go => p.all (lawApart gg)) (ps.take w)
          rw [List.length_take] at this
          rw [List.length_append, List.length_map]
          omega
        generalize acc ++ (((ps.take w).filter fun p => p.all (lawApart gg)).map fun p => p ++ [gg]) = acc2 at bl
        refine bx_one (sx_if (c := p.all (lawApart gg)) ((eb_bl ((c_all fm g (bs := p.map (lawApart gg)) ((lc [("_law_other", 7)] (.nm 7) p eGo (fun x => .bool (lawApart gg x)) fm (ix_lst fm (v 6 rfl)) (p1 7 (fm.blk _)) (fun x _ => call (fm.blk _) DA (ea_cons (v 5 rfl) (ea_cons (v 7 rfl) ea_nil)) ⟨gg, x, rfl, rfl⟩) (sz1000 (by omega))).ex.is (by rw [List.map_map]; rfl))).is (by rw [List.all_map]; rfl)) (fun _ _ => rfl))) (fun hc => ?_) (fun hc => ?_))
        · rw [if_pos hc, List.map_append (l₁ := acc2)]
          refine bx_one (app 4 fm rfl ((ex_op (od_cat (sz1000 (by rw [List.length_map, List.length_cons, List.length_nil]; omega))) (v 6 rfl) (ex_lst (ea_cons (v 5 rfl) ea_nil))).is ?_) (by rw [List.length_map]; omega))
          show _ = PyData.list ((p ++ [gg]).map eGo)
          rw [List.map_append]
          rfl
        · rw [if_neg (by rw [hc]; decide), List.append_nil]
          exact bx_nil
      · generalize ((lawMoves h sh).flatMap fun g => (ps.filter fun p => p.all (lawApart g)).map fun p => p ++ [g]) = lo at ll llen
        exact bx_cons (set_lcF 2 [("_law_plan", 6)] (.nm 6) lo ePlan (lawFits h ships) ePlan fm (ix_lst fm (v 4 rfl)) (p1 6 (fm.blk _)) (fun p hp => eb_bl (call (fm.blk _) DF (ea_cons (v 0 rfl) (ea_cons (v 1 rfl) (ea_cons (v 6 rfl) ea_nil))) ⟨h, ships, p, rfl, by rw [llen p hp]; exact ht, by omega, rfl⟩) (fun _ _ => rfl)) (fun p _ _ => v 6 rfl) (by omega)) (bx_freeze 2 rfl bx_nil)
    · rw [plansT_all]
      refine c_sortD fm g (srt_plan ?_) (v 2 rfl)
      have := sm ships.length (Nat.le_refl _)
      rw [plansT_all] at this
      omega
end TW
namespace TW
open PySem PySem.Spec PyProof.Rows L2
def zeros (ships : List Ship) : List Int := ships.map fun _ => 0
def lawH (D : List Int) : Harb := { worldH D with last := min (worldH D).last 6 }
structure Claims (h : Harb) (ships : List Ship) (spans : List Int) : Prop where
  ok : Ok h ships spans
  small : ∀ s ∈ ships, s.sea < 2 ^ 64 ∧ s.lie < 2 ^ 64
  okA : ∀ c ∈ lawComings ships spans, Ok h (shipsAt ships c) (zeros ships)
  okW : ∀ i n, spans[i]? = some n → n < 3 → Ok h ships (wider spans i)
  a : ∀ c ∈ lawComings ships spans, sureCost h (shipsAt ships c) (zeros ships) = lawBest h (shipsAt ships c)
  b : ∀ c ∈ lawComings ships spans, ∀ t, sureCost h ships spans = some t → ∃ b, lawBest h (shipsAt ships c) = some b ∧ b ≤ t
  c : ∀ i n, spans[i]? = some n → n < 3 → ∀ t', sureCost h ships (wider spans i) = some t' → ∃ t, sureCost h ships spans = some t ∧ t ≤ t'
theorem leastO_perm {l m : List Int} (p : l.Perm m) : leastO l = leastO m := by
  cases hl : leastO l with
  | none =>
    cases l with
    | nil => rw [← List.Perm.nil_eq p]; rfl
    | cons x xs => cases hl
  | some a =>
    symm
    rw [leastO_some] at hl ⊢
    exact ⟨p.mem_iff.mp hl.1, fun y hy => hl.2 y (p.mem_iff.mpr hy)⟩
theorem coming_len {ships : List Ship} {spans : List Int} {c : List Int} (hl : spans.length = ships.length) (hc : c ∈ lawComings ships spans) : c.length = ships.length := by
  have := (mem_prod.mp hc).len
  unfold spanRows at this
  rw [List.length_map, List.length_zip] at this
  omega
theorem shipsAt_len {ships : List Ship} {c : List Int} (h : c.length = ships.length) : (shipsAt ships c).length = ships.length := by
  unfold shipsAt
  rw [List.length_map, List.length_zip]
  omega
theorem comings_len {ships : List Ship} {spans : List Int} (h3 : ships.length ≤ 3) (hn : ∀ n ∈ spans, 0 ≤ n ∧ n ≤ 4) : (lawComings ships spans).length ≤ 1000 := by
  unfold lawComings
  refine prod_all (fun r hr => ?_) ?_
  · unfold spanRows at hr
    obtain ⟨q, hq, rfl⟩ := List.mem_map.mp hr
    rw [List.length_map, List.length_range]
    have := hn q.2 (List.of_mem_zip hq).2
    omega
  · unfold spanRows
    rw [List.length_map, List.length_zip]
    omega
def relLaw (ns : List Int) (ds : List PyData) (d : PyData) : Prop := ns.length ≤ 63 ∧ ds = [] ∧ d = .bool true
abbrev sLaw : Stmt := topS 40
abbrev nLaw : List Str := ["_law_script", "_law_draws_here", "_law_world_here", "_law_harbour_here", "_law_ships_here", "_law_spans", "_law_told", "_law_none", "_law_coming", "_law_there", "_law_costs", "_law_best", "_law_at_here", "_law_wider", "_law_ship_here", "_law_plan"]
theorem scLaw : FnScope nLaw ["_law_script"] (defScope sLaw) := ⟨rfl, rfl, rfl, by decide +kernel, rfl, by decide +kernel, by decide +kernel⟩
theorem cut_from {D : List Int} {a : Nat} (h : a ≤ D.length) : cutD (D.map PyData.int) (some (a : Int)) none = (D.drop a).map .int := by
  unfold cutD
  rw [HT.sIx_nat, HT.sIx_none, List.length_map, Nat.min_eq_left h, List.map_drop]
  exact List.take_of_length_le (by rw [List.length_drop, List.length_map]; exact Nat.le_refl _)
theorem isN_some {t : Int} : isN (eOpt (some t)) = false := rfl
theorem ok_law {W : Wd} {f : Addr} {fd : FuncData} (math : ∀ ns : List Int, Claims (lawH (drawsF ns 40).2) (worldS (drawsF ns 40).2) (worldN (drawsF ns 40).2)) (F : Fun W.K "law" "law" sLaw f fd) (hm : W.mg "law" = some (.ref f)) (bi : Binds W.K fd ["_law_script"] []) (g : Gs W)
    (DD : Def W 1 "_law_draws" ["_law_script", "_law_count"] (spS W relDraws)) (DW : Def W 3 "_law_world" ["_law_draws_here"] (spD W relLW)) (DS : Def W 6 "sure_cost" ["harbour", "ships", "spans"] (spD W relSure)) (DC : Def W 2 "_law_all_comings" ["_law_ships_here", "_law_spans"] (spD W relAC))
    (DA : Def W 1 "_law_at" ["_law_ships_here", "_law_coming"] (spD W relLAt)) (DL : Def W 1 "_law_cost" ["_law_ships_here", "_law_plan"] (spD W relLC)) (DP : Def W 2 "_law_plans" ["_law_harbour_here", "_law_ships_here"] (spD W relPl)) (DI : Def W 1 "_law_is_whole" ["_law_actual", "_law_due"] (spD W relIW)) (DT : Def W 1 "ships_at" ["ships", "coming"] (spD W relShipsAt)) :
    FnOk W.P W.w W.K W.mg W.base CX0 7 f fd ["_law_script"] (spS W relLaw) := by
  refine fn_defS F scLaw (fun ns ds d h => ?_) fun ns ds d hrel cdv A outer s H E fm => ?_
  · obtain ⟨_, rfl, _⟩ := h; rfl
  · obtain ⟨h63, rfl, rfl⟩ := hrel
    have C := math ns
    have Dl := (draws_len ns 40).2
    generalize hD : (drawsF ns 40).2 = D at C Dl
    have hs2 := C.ok.nships2
    have hs1 := C.ok.nships
    have hsp := C.ok.nspans
    have big : (1000000 : Nat) ≤ sizeLine := by decide
    have ec : ∀ s ∈ worldS D, (-(2 ^ 64) < s.sea ∧ s.sea < 2 ^ 64) ∧ (-(2 ^ 64) < s.lie ∧ s.lie < 2 ^ 64) := fun s hs => by
      have a := C.small s hs
      have b := C.ok.cost s hs
      omega
    refine bx_cons (Γ1 := [.sq ns, .im (eInts D), .un, .un, .un, .un, .un, .un, .un, .un, .un, .un, .un, .un, .un, .un]) (put 1 fm ((ex_callS 0 fm DD (by decide) (fun _ => rfl) (fun _ => rfl) (fun _ => .inl rfl) rfl (ea_cons k0 ea_nil) ⟨40, rfl, by decide, h63, rfl⟩).is (by rw [hD]))) ?_
    refine bx_cons (put 2 fm (call fm DW (ea_cons (v 1 rfl) ea_nil) ⟨D, rfl, Dl, rfl⟩)) ?_
    refine bx_cons (Γ1 := [.sq ns, .im (eInts D), .im (eWorld D), .im (eHarb (worldH D)), .im (eShips (worldS D)), .im (eInts (worldN D)), .un, .un, .un, .un, .un, .un, .un, .un, .un, .un]) (sx_unp (T := .tp [3, 4, 5]) (d := eWorld D) (v 2 rfl) (pgx_tp fm (pn 3 fm (pn 4 fm (pn 5 fm pgsx_nil)))) rfl) ?_
    refine bx_cons (Γ1 := [.sq ns, .im (eInts D), .im (eWorld D), .im (eHarb (lawH D)), .im (eShips (worldS D)), .im (eInts (worldN D)), .un, .un, .un, .un, .un, .un, .un, .un, .un, .un]) (put 3 fm (ex_tup (ea_cons (ixT fm (v 3 rfl) k0 rfl) (ea_cons (ixT fm (v 3 rfl) k0 rfl) (ea_cons (ixT fm (v 3 rfl) k0 rfl) (ea_cons (ixT fm (v 3 rfl) k0 rfl) (ea_cons (c_min fm g (ixT fm (v 3 rfl) k0 rfl) k0) ea_nil))))))) ?_
    generalize eWorld D = w2
    generalize lawH D = h at C
    generalize worldS D = ships at C hs1 hs2 hsp ec
    generalize worldN D = spans at C hsp
    refine bx_cons (put 6 fm (call fm DS (ea_cons (v 3 rfl) (ea_cons (v 4 rfl) (ea_cons (v 5 rfl) ea_nil))) ⟨h, ships, spans, C.ok, rfl, rfl⟩)) ?_
    refine bx_cons (set_lc 7 [("_law_ship_here", 14)] (.nm 14) ships eShip (fun _ => .int 0) fm (ix_lst fm (v 4 rfl)) (p1 14 (fm.blk _)) (fun _ _ => k0) (by omega)) (bx_freeze 7 rfl ?_)
    have ez : (ships.map fun _ => PyData.int 0) = (zeros ships).map .int := by unfold zeros; rw [List.map_map]; rfl
    rw [ez]
    show BX W _ _ [.sq ns, .im (eInts D), .im w2, .im (eHarb h), .im (eShips ships), .im (eInts spans), .im (eOpt (sureCost h ships spans)), .im (eInts (zeros ships)), .un, .un, .un, .un, .un, .un, .un, .un] _
    refine bx_cons (sx_forL (lawComings ships spans) eMove (fun _ => [.sq ns, .im (eInts D), .im w2, .im (eHarb h), .im (eShips ships), .im (eInts spans), .im (eOpt (sureCost h ships spans)), .im (eInts (zeros ships)), .un, .un, .un, .un, .un, .un, .un, .un]) rfl
      (ix_lst fm (call fm DC (ea_cons (v 4 rfl) (ea_cons (v 5 rfl) ea_nil)) ⟨ships, spans, rfl, hsp.symm, by omega, C.ok.span, fun s hs => by have := C.ok.ready s hs; omega, rfl⟩)) fm (p1 8 fm) (fun t c hc => ?_)) ?_
    · have hcm : c ∈ lawComings ships spans := List.mem_of_getElem? hc
      have cl := coming_len hsp hcm
      have al := shipsAt_len (ships := ships) cl
      have okA := C.okA c hcm
      have ecA : ∀ s ∈ shipsAt ships c, (-(2 ^ 64) < s.sea ∧ s.sea < 2 ^ 64) ∧ (-(2 ^ 64) < s.lie ∧ s.lie < 2 ^ 64) := fun s hs => by
        obtain ⟨r, hr, rfl⟩ := List.mem_map.mp hs
        exact ec r.1 (List.of_mem_zip hr).1
      have pl : (lawPlans0 h (shipsAt ships c)).length ≤ 9604 ∧ ∀ p ∈ lawPlans0 h (shipsAt ships c), p.length = (shipsAt ships c).length := by
        rw [← plansT_all]
        obtain ⟨a, b⟩ := plans_small (h := h) (ships := shipsAt ships c) okA.berths2 okA.last2 _ (Nat.le_refl _)
        refine ⟨Nat.le_trans a ?_, b⟩
        have e : (9604 : Nat) = 98 ^ 2 := rfl
        rw [e]
        exact Nat.pow_le_pow_right (by decide) (by omega)
      have eb : leastO (((lawPlans0 h (shipsAt ships c)).mergeSort (PySem.W.dataLe false ePlan)).map (lawCost (shipsAt ships c))) = lawBest h (shipsAt ships c) := leastO_perm ((List.mergeSort_perm _ _).map _)
      refine bx_wk (Γ2 := [.sq ns, .im (eInts D), .im w2, .im (eHarb h), .im (eShips ships), .im (eInts spans), .im (eOpt (sureCost h ships spans)), .im (eInts (zeros ships)), .im (eMove c), .im (eShips (shipsAt ships c)), .im (.list (((lawPlans0 h (shipsAt ships c)).mergeSort (PySem.W.dataLe false ePlan)).map fun p => .int (lawCost (shipsAt ships c) p))), .im (eOpt (lawBest h (shipsAt ships c))), .un, .un, .un, .un]) ?_
        (.same (.same (.same (.same (.same (.same (.same (.same (.un (.un (.un (.un (.same (.same (.same (.same .nil))))))))))))))))
      refine bx_cons (put 9 fm (call fm DA (ea_cons (v 4 rfl) (ea_cons (v 8 rfl) ea_nil)) ⟨ships, c, rfl, cl, by omega, rfl⟩)) ?_
      refine bx_cons (set_lc 10 [("_law_plan", 15)] (.nm 15) ((lawPlans0 h (shipsAt ships c)).mergeSort (PySem.W.dataLe false ePlan)) ePlan (fun p => .int (lawCost (shipsAt ships c) p)) fm (ix_lst fm (call fm DP (ea_cons (v 3 rfl) (ea_cons (v 9 rfl) ea_nil)) ⟨h, shipsAt ships c, rfl, okA.depths, okA.berths2, okA.last, okA.last2, okA.nships2, rfl⟩)) (p1 15 (fm.blk _))
        (fun p hp => call (fm.blk _) DL (ea_cons (v 9 rfl) (ea_cons (v 15 rfl) ea_nil)) ⟨shipsAt ships c, p, rfl, by rw [pl.2 p ((List.mergeSort_perm _ _).mem_iff.mp hp)]; exact Nat.le_refl _, by rw [pl.2 p ((List.mergeSort_perm _ _).mem_iff.mp hp)]; omega, ecA, rfl⟩) (by rw [List.length_mergeSort]; omega)) (bx_freeze 10 rfl ?_)
      refine bx_cons (put 11 fm (((ex_minD (ns := ((lawPlans0 h (shipsAt ships c)).mergeSort (PySem.W.dataLe false ePlan)).map (lawCost (shipsAt ships c))) fm (fun _ => rfl) g.min ((v 10 rfl).is (by rw [List.map_map]; rfl)) ex_non).is (orD_opt _)).is (by rw [eb]))) ?_
      refine bx_cons (sx_ifF ((eb_not (eb_bl (call fm DI (ea_cons (call fm DS (ea_cons (v 3 rfl) (ea_cons (call fm DT (ea_cons (v 4 rfl) (ea_cons (v 8 rfl) ea_nil)) ⟨ships, c, rfl, by omega, rfl⟩) (ea_cons (v 7 rfl) ea_nil))) ⟨h, shipsAt ships c, zeros ships, okA, rfl, rfl⟩) (ea_cons (v 11 rfl) ea_nil)) ⟨_, _, rfl, rfl⟩) (fun _ _ => rfl))).is ?_) bx_nil) ?_
      · rw [decide_eq_true (C.a c hcm)]
        rfl
      · refine bx_one (sx_ifF ?_ bx_nil)
        cases ht : sureCost h ships spans with
        | none => exact (eb_w (ew_and (c := false) (c' := false) ((eb_cmp od_notN (v 6 rfl) ex_non)) (fun z => nomatch z)))
        | some t =>
          obtain ⟨b, hb, hle⟩ := C.b c hcm t ht
          rw [hb]
          refine (eb_w (ew_and (eb_cmp od_notN (v 6 rfl) ex_non) (fun _ => ew_and1 (eb_w (ew_or (eb_cmp od_isN (v 11 rfl) ex_non) (fun _ => ew_or1 (eb_cmp (od_gt (n := b) (m := t)) (v 11 rfl) (v 6 rfl)))))))).is ?_
          rw [isN_some, isN_some, decide_eq_false (by omega)]
          rfl
    · have hm0 : (0 : Int) < ((ships.map eShip).length : Int) := by rw [List.length_map]; omega
      refine bx_cons (put 12 fm (ex_op (od_mod hm0) (c_int fm g (ixL fm (v 1 rfl) k0 (at_dg (i := 32) rfl (by omega)))) (c_len fm g (v 4 rfl)))) ?_
      have i0 := Int.emod_nonneg (dg D 32) (show ((ships.map eShip).length : Int) ≠ 0 by omega)
      have i1 := Int.emod_lt_of_pos (dg D 32) hm0
      rw [List.length_map] at i0 i1 ⊢
      obtain ⟨i, hi⟩ : ∃ i : Nat, dg D 32 % (ships.length : Int) = (i : Int) := ⟨(dg D 32 % (ships.length : Int)).toNat, by omega⟩
      rw [hi] at i1 ⊢
      have il : i < spans.length := by omega
      have a1 : atI (spans.map PyData.int) (i : Int) = some (.int (spans.getD i 0)) := atI_nat' il
      obtain ⟨n, hn⟩ := at_of (l := spans) (i := i) il
      have en : spans.getD i 0 = n := getD_at hn
      have ew : (.list (cutD (spans.map PyData.int) none (some (i : Int)) ++ [.int (spans.getD i 0 + 1)] ++ cutD (spans.map PyData.int) (some ((i : Int) + 1)) none) : PyData) = eInts (wider spans i) := by
        rw [cut_to (by omega), show (i : Int) + 1 = ((i + 1 : Nat) : Int) by omega, cut_from (by omega)]
        unfold eInts wider sl
        rw [List.map_append, List.map_append, List.drop_zero, Nat.sub_zero]
        rfl
      have lw1 : (cutD (spans.map PyData.int) none (some (i : Int))).length ≤ 1000 := by
        rw [cut_to (by omega), List.length_map, sl_len (by omega)]
        omega
      have lw2 : (cutD (spans.map PyData.int) (some ((i : Int) + 1)) none).length ≤ 1000 := by
        rw [show (i : Int) + 1 = ((i + 1 : Nat) : Int) by omega, cut_from (by omega), List.length_map, List.length_drop]
        omega
      refine bx_cons (Γ1 := [.sq ns, .im (eInts D), .im w2, .im (eHarb h), .im (eShips ships), .im (eInts spans), .im (eOpt (sureCost h ships spans)), .im (eInts (zeros ships)), .un, .un, .un, .un, .im (.int i), .un, .un, .un])
        (sx_if (eb_cmp od_lt (ixL fm (v 5 rfl) (v 12 rfl) a1) k0) (fun hc => ?_) (fun _ => bx_nil)) (bx_one (sx_ret ex_bl))
      have n3 : n < 3 := by rw [← en]; exact of_decide_eq_true hc
      refine bx_wk (Γ2 := [.sq ns, .im (eInts D), .im w2, .im (eHarb h), .im (eShips ships), .im (eInts spans), .im (eOpt (sureCost h ships spans)), .im (eInts (zeros ships)), .un, .un, .un, .un, .im (.int i), .im (eOpt (sureCost h ships (wider spans i))), .un, .un]) ?_
        (.same (.same (.same (.same (.same (.same (.same (.same (.same (.same (.same (.same (.same (.un (.same (.same .nil))))))))))))))))
      refine bx_cons (put 13 fm (call fm DS (ea_cons (v 3 rfl) (ea_cons (v 4 rfl) (ea_cons ((ex_op (od_cat ?_) (ex_op (od_cat ?_) (ex_sliceL fm (v 5 rfl) eo_none (eo_some (v 12 rfl))) (ex_lst (ea_cons (ex_op od_add (ixL fm (v 5 rfl) (v 12 rfl) a1) k0) ea_nil))) (ex_sliceL fm (v 5 rfl) (eo_some (ex_op od_add (v 12 rfl) k0)) eo_none)).is ew) ea_nil))) ⟨h, ships, wider spans i, C.okW i n hn n3, rfl, rfl⟩)) (bx_one (sx_ifF ?_ bx_nil))
      · rw [List.length_append, List.length_cons, List.length_nil]
        omega
      · rw [List.length_cons, List.length_nil]
        omega
      · cases hw : sureCost h ships (wider spans i) with
        | none => exact (eb_w (ew_and (c := false) (c' := false) ((eb_cmp od_notN (v 13 rfl) ex_non)) (fun z => nomatch z)))
        | some t' =>
          obtain ⟨t, ht, hle⟩ := C.c i n hn n3 t' hw
          rw [ht]
          refine (eb_w (ew_and (eb_cmp od_notN (v 13 rfl) ex_non) (fun _ => ew_and1 (eb_w (ew_or (eb_cmp od_isN (v 6 rfl) ex_non) (fun _ => ew_or1 (eb_cmp (od_lt (n := t') (m := t)) (v 13 rfl) (v 6 rfl)))))))).is ?_
          rw [isN_some, isN_some, decide_eq_false (by omega)]
          rfl
end TW
/-! Numbers with none above all; wider spans. -/
namespace TW
/-- a is not above b, none above all -/
def Le (a b : Option Int) : Prop := ∀ t, b = some t → ∃ s, a = some s ∧ s ≤ t
theorem Le.refl (a : Option Int) : Le a a := fun t h => ⟨t, h, Int.le_refl t⟩
theorem mostO_mem {l : List Int} {i : Int} (h : i ∈ l) : ∃ m, mostO l = some m := by
  cases hl : mostO l with
  | some m => exact ⟨m, rfl⟩
  | none =>
    cases l with
    | nil => cases h
    | cons x xs => cases hl
theorem leastO_mem {l : List Int} {i : Int} (h : i ∈ l) : ∃ m, leastO l = some m ∧ m ≤ i := by
  cases hl : leastO l with
  | some m => exact ⟨m, rfl, (leastO_some.mp hl).2 i h⟩
  | none =>
    cases l with
    | nil => cases h
    | cons x xs => cases hl
theorem mem_ids {l : List (Option Int)} {i : Int} : i ∈ l.filterMap id ↔ some i ∈ l := by
  rw [List.mem_filterMap]
  exact ⟨fun ⟨a, h, e⟩ => by have : a = some i := e; exact this ▸ h, fun h => ⟨some i, h, rfl⟩⟩
theorem greatest_some {l : List (Option Int)} {t : Int} : greatest l = some t ↔ (∀ o ∈ l, ∃ i, o = some i ∧ i ≤ t) ∧ (l = [] → t = 0) ∧ (l ≠ [] → some t ∈ l) := by
  unfold greatest
  constructor
  · intro h
    split at h
    · cases h
    · rename_i hn
      have all : ∀ o ∈ l, ∃ i, o = some i := fun o ho => by
        cases o with
        | some i => exact ⟨i, rfl⟩
        | none => exact absurd (List.any_eq_true.mpr ⟨none, ho, rfl⟩) hn
      have h' : (mostO (l.filterMap id)).getD 0 = t := Option.some.inj h
      cases l with
      | nil => exact ⟨fun o ho => (nomatch ho), fun _ => h'.symm, fun z => absurd rfl z⟩
      | cons x xs =>
        obtain ⟨i, hi⟩ := all x (List.mem_cons_self ..)
        obtain ⟨m, hm⟩ := mostO_mem (l := (x :: xs).filterMap id) (mem_ids.mpr (by rw [← hi]; exact List.mem_cons_self ..))
        rw [hm] at h'
        have h' : m = t := h'
        subst h'
        obtain ⟨a, b⟩ := mostO_some.mp hm
        refine ⟨fun o ho => ?_, fun z => (nomatch z), fun _ => mem_ids.mp a⟩
        obtain ⟨j, hj⟩ := all o ho
        exact ⟨j, hj, b j (mem_ids.mpr (hj ▸ ho))⟩
  · rintro ⟨h1, h2, h3⟩
    rw [if_neg (fun z => by
      obtain ⟨o, ho, e⟩ := List.any_eq_true.mp z
      obtain ⟨i, hi, _⟩ := h1 o ho
      rw [hi] at e
      cases e)]
    congr 1
    cases l with
    | nil => exact (h2 rfl).symm
    | cons x xs =>
      have ht := h3 (by simp)
      have : mostO ((x :: xs).filterMap id) = some t := mostO_some.mpr ⟨mem_ids.mpr ht, fun y hy => by
        obtain ⟨i, hi, le⟩ := h1 _ (mem_ids.mp hy)
        cases hi
        exact le⟩
      rw [this]
      rfl
theorem greatest_le {A B : List (Option Int)} (h : ∀ a ∈ A, ∃ b ∈ B, Le a b) (h0 : A = [] → B = []) : Le (greatest A) (greatest B) := by
  intro t ht
  obtain ⟨b1, b2, b3⟩ := greatest_some.mp ht
  have key : ∀ a ∈ A, ∃ i, a = some i ∧ i ≤ t := fun a ha => by
    obtain ⟨b, hb, le⟩ := h a ha
    obtain ⟨j, hj, le2⟩ := b1 b hb
    obtain ⟨i, hi, le3⟩ := le j hj
    exact ⟨i, hi, Int.le_trans le3 le2⟩
  cases A with
  | nil => exact ⟨0, rfl, by rw [b2 (h0 rfl)]; exact Int.le_refl _⟩
  | cons x xs =>
    obtain ⟨i, hi, _⟩ := key x (List.mem_cons_self ..)
    obtain ⟨m, hm⟩ := mostO_mem (l := (x :: xs).filterMap id) (mem_ids.mpr (by rw [← hi]; exact List.mem_cons_self ..))
    obtain ⟨a, b⟩ := mostO_some.mp hm
    refine ⟨m, greatest_some.mpr ⟨fun o ho => ?_, fun z => (nomatch z), fun _ => mem_ids.mp a⟩, ?_⟩
    · obtain ⟨j, hj, _⟩ := key o ho
      exact ⟨j, hj, b j (mem_ids.mpr (hj ▸ ho))⟩
    · obtain ⟨j, hj, le⟩ := key _ (mem_ids.mp a)
      cases hj
      exact le
def best (l : List (Option Int)) : Option Int := leastO (l.filterMap id)
theorem best_some {l : List (Option Int)} {v : Int} (h : best l = some v) : some v ∈ l := mem_ids.mp (leastO_some.mp h).1
theorem best_mem {l : List (Option Int)} {i : Int} (h : some i ∈ l) : ∃ v, best l = some v ∧ v ≤ i := leastO_mem (mem_ids.mpr h)
theorem best_le {A B : List (Option Int)} (h : ∀ b ∈ B, ∃ a ∈ A, Le a b) : Le (best A) (best B) := by
  intro t ht
  obtain ⟨a, ha, le⟩ := h _ (best_some ht)
  obtain ⟨s, hs, le2⟩ := le t rfl
  subst hs
  obtain ⟨v, hv, le3⟩ := best_mem ha
  exact ⟨v, hv, Int.le_trans le3 le2⟩
/-! ### wider spans -/
def FarOk (ships : List Ship) (spans : List Int) (t : Int) (places : List Place) : Prop := ∀ (i : Nat) (s : Ship) (n : Int), ships[i]? = some s → spans[i]? = some n → places[i]? = some .far → t ≤ s.ready + n
section
variable {h : Harb} {ships : List Ship} {spans spans' : List Int}
theorem row_sub {hour n n' : Int} {s : Ship} {p q : Place} (hn : n ≤ n') (h0 : 0 ≤ n) (hf : p = .far → hour ≤ s.ready + n) (hq : q ∈ comeRow hour s n p) : q ∈ comeRow hour s n' p ∧ (q = .far → hour + 1 ≤ s.ready + n) := by
  unfold comeRow at hq ⊢
  split at hq
  · rename_i hc
    rw [if_pos hc]
    refine ⟨hq, fun e => ?_⟩
    have : q = p := by simpa using hq
    subst this
    rcases hc with hc | hc
    · exact absurd e hc
    · omega
  · rename_i hc
    rw [if_neg hc]
    have hp : p = .far := Decidable.byContradiction fun z => hc (.inl z)
    have hr : ¬ hour < s.ready := fun z => hc (.inr z)
    have hf := hf hp
    split at hq
    · rename_i he
      have : q = .sea := by simpa using hq
      subst this
      refine ⟨?_, fun e => (nomatch e)⟩
      split <;> simp
    · rename_i he
      rw [if_neg (by omega)]
      exact ⟨hq, fun _ => by omega⟩
theorem come_sub (l1 : spans.length = ships.length) (l2 : spans'.length = ships.length) (le : ∀ (i : Nat) (n n' : Int), spans[i]? = some n → spans'[i]? = some n' → 0 ≤ n ∧ n ≤ n') {hour : Int} {places qs : List Place} (lp : places.length = ships.length)
    (hf : FarOk ships spans hour places) (hq : qs ∈ come ships spans hour places) : qs ∈ come ships spans' hour places ∧ FarOk ships spans (hour + 1) qs := by
  obtain ⟨a, b⟩ := (come_iff l1 lp).mp hq
  refine ⟨(come_iff l2 lp).mpr ⟨a, fun i s n' p q e1 e2 e3 e4 => ?_⟩, fun i s n e1 e2 e3 => ?_⟩
  · obtain ⟨n, hn⟩ := at_of (l := spans) (i := i) (by rw [l1]; exact at_lt e1)
    obtain ⟨n0, nn⟩ := le i n n' hn e2
    exact (row_sub nn n0 (fun e => hf i s n e1 hn (e ▸ e3)) (b i s n p q e1 hn e3 e4)).1
  · obtain ⟨p, hp⟩ := at_of (l := places) (i := i) (by rw [lp]; exact at_lt e1)
    obtain ⟨n', hn'⟩ := at_of (l := spans') (i := i) (by rw [l2]; exact at_lt e1)
    obtain ⟨n0, nn⟩ := le i n n' e2 hn'
    exact (row_sub nn n0 (fun e => hf i s n e1 e2 (e ▸ hp)) (b i s n p .far e1 e2 hp e3)).2 rfl
theorem come_ne (l1 : spans.length = ships.length) {hour : Int} {places : List Place} (lp : places.length = ships.length) : ∃ qs, qs ∈ come ships spans hour places := by
  refine ⟨(ships.zip (spans.zip places)).map fun r => (comeRow hour r.1 r.2.1 r.2.2).headD .far, ?_⟩
  unfold come
  rw [mem_prod]
  refine Pick.mk fun r _ => ?_
  unfold comeRow
  split
  · simp
  · split <;> simp
theorem later_far {places : List Place} {m : List Int} {t : Int} (hf : FarOk ships spans (t + 1) places) : FarOk ships spans (t + 1) (laterOf ships places m) := fun i s n e1 e2 e3 => by
  obtain ⟨x, p, u, hx, hp, hu, e⟩ := later_at e3
  rw [e1] at hx
  cases hx
  refine hf i s n e1 e2 ?_
  rw [hp]
  congr 1
  unfold placeBehind at e
  split at e
  · cases e
  · split at e
    · cases e
    · cases p with
      | far => rfl
      | sea => cases e
      | gone => cases e
      | lies b l => cases e
theorem valN_mono (l1 : spans.length = ships.length) (l2 : spans'.length = ships.length) (le : ∀ (i : Nat) (n n' : Int), spans[i]? = some n → spans'[i]? = some n' → 0 ≤ n ∧ n ≤ n') :
    ∀ (k : Nat) (s : State), s.2.length = ships.length → FarOk ships spans (s.1 + 1) s.2 → Le (valN h ships spans k s) (valN h ships spans' k s)
  | 0, s, _, _ => Le.refl _
  | k + 1, s, hl, hf => by
    show Le (best ((movesOf h ships s).map fun m => sureBy h ships spans s m (valN h ships spans k))) (best ((movesOf h ships s).map fun m => sureBy h ships spans' s m (valN h ships spans' k)))
    refine best_le fun b hb => ?_
    obtain ⟨m, hm, rfl⟩ := List.mem_map.mp hb
    refine ⟨_, List.mem_map.mpr ⟨m, hm, rfl⟩, ?_⟩
    have ml := (moves_pick hm hl).1
    have ll : (laterOf ships s.2 m).length = ships.length := later_len hl ml
    have lf := later_far (m := m) hf
    unfold sureBy
    by_cases hmis : misses h s m = true
    · rw [if_pos hmis, if_pos hmis]
      exact Le.refl _
    · rw [if_neg hmis, if_neg hmis]
      have G : Le (greatest ((statesBehind h ships spans s m).map (valN h ships spans k))) (greatest ((statesBehind h ships spans' s m).map (valN h ships spans' k))) := by
        unfold statesBehind
        by_cases hc : isEnd s.2 m = true ∨ s.1 = h.last
        · rw [if_pos hc, if_pos hc]
          exact Le.refl _
        · rw [if_neg hc, if_neg hc, List.map_map, List.map_map]
          refine greatest_le (fun a ha => ?_) (fun e => ?_)
          · obtain ⟨qs, hq, rfl⟩ := List.mem_map.mp ha
            obtain ⟨q1, q2⟩ := come_sub l1 l2 le ll lf hq
            refine ⟨_, List.mem_map.mpr ⟨qs, q1, rfl⟩, ?_⟩
            exact valN_mono l1 l2 le k (s.1 + 1, qs) ((come_iff l1 ll).mp hq).1 q2
          · obtain ⟨qs, hq⟩ := come_ne (spans := spans) l1 (hour := s.1 + 1) ll
            rw [List.map_eq_nil_iff] at e
            rw [e] at hq
            cases hq
      intro t ht
      cases hb : greatest ((statesBehind h ships spans' s m).map (valN h ships spans' k)) with
      | none => rw [hb] at ht; cases ht
      | some b =>
        rw [hb] at ht
        have ht : some (costOf ships s.2 m + b) = some t := ht
        cases ht
        obtain ⟨a, ha, le⟩ := G b hb
        rw [ha]
        exact ⟨_, rfl, by omega⟩
theorem far_len : (List.replicate ships.length Place.far).length = ships.length := List.length_replicate
theorem sure_mono (l1 : spans.length = ships.length) (l2 : spans'.length = ships.length) (le : ∀ (i : Nat) (n n' : Int), spans[i]? = some n → spans'[i]? = some n' → 0 ≤ n ∧ n ≤ n') (hr : ∀ s ∈ ships, 0 ≤ s.ready) : Le (sureCost h ships spans) (sureCost h ships spans') := by
  unfold sureCost firstStates
  rw [List.map_map, List.map_map]
  have f0 : FarOk ships spans 0 (List.replicate ships.length .far) := fun i s n e1 e2 _ => by
    obtain ⟨n', hn'⟩ := at_of (l := spans') (i := i) (by rw [l2]; exact at_lt e1)
    have := (le i n n' e2 hn').1
    have := hr s (List.mem_of_getElem? e1)
    omega
  refine greatest_le (fun a ha => ?_) (fun e => ?_)
  · obtain ⟨qs, hq, rfl⟩ := List.mem_map.mp ha
    obtain ⟨q1, q2⟩ := come_sub l1 l2 le far_len f0 hq
    refine ⟨_, List.mem_map.mpr ⟨qs, q1, rfl⟩, ?_⟩
    exact valN_mono l1 l2 le _ (0, qs) ((come_iff l1 far_len).mp hq).1 q2
  · obtain ⟨qs, hq⟩ := come_ne (spans := spans) (ships := ships) l1 (hour := 0) far_len
    rw [List.map_eq_nil_iff] at e
    rw [e] at hq
    cases hq
end
end TW
/-! One ship that follows a plan; rows of ships. -/
namespace TW
def placeAt (c : Int) (s : Ship) (q : Go) (t : Int) : Place := if t < c then .far else if t ≤ q.f then .sea else if t ≤ q.o then .lies q.b (max 0 (s.stay - (t - q.f - 1))) else .gone
def tellAt (q : Go) (t : Int) : Int := if t = q.f then q.b else if t = q.o then -2 else -1
def arrive (c t : Int) (p : Place) : Place := if p = .far ∧ c ≤ t then .sea else p
def nSea (c : Int) (q : Go) (t : Int) : Int := max 0 (min t q.f - c)
def nLie (s : Ship) (q : Go) (t : Int) : Int := max 0 (min t q.o - (q.f + 1 + s.stay))
def paid (c : Int) (s : Ship) (q : Go) (t : Int) : Int := s.sea * nSea c q t + s.lie * nLie s q t
structure Fit (c : Int) (s : Ship) (q : Go) : Prop where
  cf : c ≤ q.f
  fo : q.f + s.stay < q.o
  b0 : 0 ≤ q.b
section
variable {c : Int} {s : Ship} {q : Go} {t : Int}
theorem behind_in {p : Place} {u : Int} (h : 0 ≤ u) : placeBehind s p u = .lies u s.stay := by
  unfold placeBehind
  rw [if_neg (by omega), if_pos h]
theorem arrive_ne {u : Int} {p : Place} (h : p ≠ .far) : arrive c u p = p := if_neg fun z => h z.1
theorem arrive_lies {u b l : Int} : arrive c u (.lies b l) = .lies b l := arrive_ne (by intro z; cases z)
theorem place_next (F : Fit c s q) (h0 : 0 ≤ s.stay) : arrive c (t + 1) (placeBehind s (placeAt c s q t) (tellAt q t)) = placeAt c s q (t + 1) := by
  obtain ⟨h1, h2, h3⟩ := F
  unfold placeAt tellAt
  by_cases a : t < c
  · rw [if_pos a, if_neg (by omega), if_neg (by omega)]
    show arrive c (t + 1) .far = _
    unfold arrive
    by_cases b : t + 1 < c
    · rw [if_pos b, if_neg (by omega)]
    · rw [if_neg b, if_pos (show t + 1 ≤ q.f by omega), if_pos ⟨rfl, by omega⟩]
  · rw [if_neg a, if_neg (show ¬ t + 1 < c by omega)]
    by_cases b : t ≤ q.f
    · rw [if_pos b]
      by_cases e : t = q.f
      · rw [if_pos e, if_neg (by omega), if_pos (by omega), behind_in h3, arrive_lies, show s.stay - (t + 1 - q.f - 1) = s.stay by omega, Int.max_eq_right h0]
      · rw [if_neg e, if_neg (by omega), if_pos (by omega)]
        show arrive c (t + 1) .sea = _
        exact arrive_ne (fun z => nomatch z)
    · rw [if_neg b, if_neg (show ¬ t = q.f by omega), if_neg (show ¬ t + 1 ≤ q.f by omega)]
      by_cases d : t ≤ q.o
      · rw [if_pos d]
        by_cases e : t = q.o
        · rw [if_pos e, if_neg (by omega)]
          exact arrive_ne (fun z => nomatch z)
        · rw [if_neg e, if_pos (by omega)]
          show arrive c (t + 1) (.lies q.b (max 0 (max 0 (s.stay - (t - q.f - 1)) - 1))) = _
          rw [arrive_lies]
          congr 1
          omega
      · rw [if_neg d, if_neg (by omega), if_neg (by omega)]
        exact arrive_ne (fun z => nomatch z)
theorem place_sea : placeAt c s q t = .sea ↔ c ≤ t ∧ t ≤ q.f := by
  unfold placeAt
  by_cases a : t < c
  · rw [if_pos a]
    constructor
    · intro z; cases z
    · intro z; omega
  · rw [if_neg a]
    by_cases b : t ≤ q.f
    · rw [if_pos b]
      exact ⟨fun _ => ⟨by omega, b⟩, fun _ => rfl⟩
    · rw [if_neg b]
      constructor
      · intro z; split at z <;> cases z
      · intro z; omega
theorem place_out (F : Fit c s q) : readyOut (placeAt c s q t) = true ↔ q.f + 1 + s.stay ≤ t ∧ q.f < t ∧ t ≤ q.o := by
  obtain ⟨h1, h2, h3⟩ := F
  unfold placeAt
  by_cases a : t < c
  · rw [if_pos a]
    constructor
    · intro z; cases z
    · intro z; omega
  · rw [if_neg a]
    by_cases b : t ≤ q.f
    · rw [if_pos b]
      constructor
      · intro z; cases z
      · intro z; omega
    · rw [if_neg b]
      by_cases d : t ≤ q.o
      · rw [if_pos d]
        show decide _ = true ↔ _
        rw [decide_eq_true_eq]
        omega
      · rw [if_neg d]
        constructor
        · intro z; cases z
        · intro z; omega
theorem place_lies : lieB (placeAt c s q t) = true ↔ c ≤ t ∧ q.f < t ∧ t ≤ q.o := by
  unfold placeAt
  by_cases a : t < c
  · rw [if_pos a]
    constructor
    · intro z; cases z
    · intro z; omega
  · rw [if_neg a]
    by_cases b : t ≤ q.f
    · rw [if_pos b]
      constructor
      · intro z; cases z
      · intro z; omega
    · rw [if_neg b]
      by_cases d : t ≤ q.o
      · rw [if_pos d]
        exact ⟨fun _ => by omega, fun _ => rfl⟩
      · rw [if_neg d]
        constructor
        · intro z; cases z
        · intro z; omega
theorem place_berth (h : lieB (placeAt c s q t) = true) : berthOf (placeAt c s q t) = q.b := by
  have := place_lies.mp h
  unfold placeAt
  rw [if_neg (by omega), if_neg (by omega), if_pos (by omega)]
  rfl
theorem place_gone (F : Fit c s q) (h0 : 0 ≤ s.stay) : placeAt c s q t = .gone ↔ q.o < t := by
  obtain ⟨h1, h2, h3⟩ := F
  unfold placeAt
  by_cases a : t < c
  · rw [if_pos a]
    constructor
    · intro z; cases z
    · intro z; omega
  · rw [if_neg a]
    by_cases b : t ≤ q.f
    · rw [if_pos b]
      constructor
      · intro z; cases z
      · intro z; omega
    · rw [if_neg b]
      by_cases d : t ≤ q.o
      · rw [if_pos d]
        constructor
        · intro z; cases z
        · intro z; omega
      · rw [if_neg d]
        exact ⟨fun _ => by omega, fun _ => rfl⟩
theorem place_far : placeAt c s q t = .far ↔ t < c := by
  unfold placeAt
  by_cases a : t < c
  · rw [if_pos a]
    exact ⟨fun _ => a, fun _ => rfl⟩
  · rw [if_neg a]
    constructor
    · intro z
      split at z
      · cases z
      · split at z <;> cases z
    · intro z; omega
theorem tell_stays (F : Fit c s q) : tellAt q t = -1 ↔ t ≠ q.f ∧ t ≠ q.o := by
  have := F.b0
  unfold tellAt
  by_cases a : t = q.f
  · rw [if_pos a]; omega
  · rw [if_neg a]
    by_cases b : t = q.o
    · rw [if_pos b]; omega
    · rw [if_neg b]
      exact ⟨fun _ => ⟨a, b⟩, fun _ => rfl⟩
theorem tell_in (F : Fit c s q) : 0 ≤ tellAt q t ↔ t = q.f := by
  have := F.b0
  unfold tellAt
  by_cases a : t = q.f
  · rw [if_pos a]; omega
  · rw [if_neg a]
    split <;> omega
theorem tell_out (F : Fit c s q) (h0 : 0 ≤ s.stay) : tellAt q t = -2 ↔ t = q.o := by
  have := F.b0
  have := F.fo
  unfold tellAt
  by_cases a : t = q.f
  · rw [if_pos a]; omega
  · rw [if_neg a]
    by_cases b : t = q.o
    · rw [if_pos b]; omega
    · rw [if_neg b]; omega
theorem paid_next (F : Fit c s q) (h0 : 0 ≤ s.stay) : paid c s q (t + 1) = paid c s q t + costOne s (placeAt c s q t) (tellAt q t) := by
  have e1 : nSea c q (t + 1) = nSea c q t + (if placeAt c s q t = .sea ∧ tellAt q t = -1 then 1 else 0) := by
    obtain ⟨h1, h2, h3⟩ := id F
    by_cases a : placeAt c s q t = .sea ∧ tellAt q t = -1
    · rw [if_pos a]
      rw [place_sea, tell_stays F] at a
      unfold nSea
      omega
    · rw [if_neg a]
      rw [place_sea, tell_stays F] at a
      unfold nSea
      omega
  have e2 : nLie s q (t + 1) = nLie s q t + (if readyOut (placeAt c s q t) = true ∧ tellAt q t = -1 then 1 else 0) := by
    obtain ⟨h1, h2, h3⟩ := id F
    by_cases a : readyOut (placeAt c s q t) = true ∧ tellAt q t = -1
    · rw [if_pos a]
      rw [place_out F, tell_stays F] at a
      unfold nLie
      omega
    · rw [if_neg a]
      rw [place_out F, tell_stays F] at a
      unfold nLie
      omega
  unfold paid costOne
  rw [e1, e2, Int.mul_add, Int.mul_add]
  have e3 : s.sea * (if placeAt c s q t = .sea ∧ tellAt q t = -1 then 1 else 0) = (if placeAt c s q t = .sea ∧ tellAt q t = -1 then s.sea else 0) := by split <;> simp
  have e4 : s.lie * (if readyOut (placeAt c s q t) = true ∧ tellAt q t = -1 then 1 else 0) = (if readyOut (placeAt c s q t) = true ∧ tellAt q t = -1 then s.lie else 0) := by split <;> simp
  rw [e3, e4]
  omega
theorem paid_end (F : Fit c s q) (ht : q.o < t) (h0 : 0 ≤ s.stay) : paid c s q t = s.sea * (q.f - c) + s.lie * (q.o - q.f - 1 - s.stay) := by
  obtain ⟨h1, h2, h3⟩ := F
  unfold paid nSea nLie
  rw [show max 0 (min t q.f - c) = q.f - c by omega, show max 0 (min t q.o - (q.f + 1 + s.stay)) = q.o - q.f - 1 - s.stay by omega]
theorem paid_start (F : Fit c s q) (hc : 0 ≤ c) (h0 : 0 ≤ s.stay) : paid c s q 0 = 0 := by
  obtain ⟨h1, h2, h3⟩ := F
  unfold paid nSea nLie
  rw [show max 0 (min 0 q.f - c) = 0 by omega, show max 0 (min 0 q.o - (q.f + 1 + s.stay)) = 0 by omega]
  simp
/-- the come of one ship -/
theorem arrive_row {n t : Int} {p : Place} (h1 : s.ready ≤ c) (h2 : c ≤ s.ready + n) (hf : p = .far → t ≤ c) : arrive c t p ∈ comeRow t s n p := by
  unfold comeRow arrive
  by_cases a : p ≠ .far ∨ t < s.ready
  · rw [if_pos a, if_neg (fun z => a.elim (fun q => q z.1) (fun q => by omega))]
    simp
  · rw [if_neg a]
    have hp : p = .far := Decidable.byContradiction fun z => a (.inl z)
    have hr : ¬ t < s.ready := fun z => a (.inr z)
    have := hf hp
    subst hp
    by_cases b : c ≤ t
    · rw [if_pos (show Place.far = Place.far ∧ c ≤ t from ⟨rfl, b⟩)]
      split <;> simp
    · rw [if_neg (show ¬ (Place.far = Place.far ∧ c ≤ t) from fun z => b z.2), if_neg (by omega)]
      simp
theorem row0 {t : Int} {p x : Place} (hf : p = .far → t ≤ s.ready) (hx : x ∈ comeRow t s 0 p) : x = arrive s.ready t p := by
  unfold comeRow at hx
  unfold arrive
  by_cases a : p ≠ .far ∨ t < s.ready
  · rw [if_pos a] at hx
    rw [if_neg (fun z => a.elim (fun q => q z.1) (fun q => by omega))]
    simpa using hx
  · rw [if_neg a] at hx
    have hp : p = .far := Decidable.byContradiction fun z => a (.inl z)
    have hr : ¬ t < s.ready := fun z => a (.inr z)
    have := hf hp
    rw [if_pos (by omega)] at hx
    rw [if_pos ⟨hp, by omega⟩]
    simpa using hx
end
/-! ### told that fits -/
theorem freeOk_iff : ∀ {ms tk : List Int}, freeOk tk ms = true ↔ ms.Pairwise (fun a b => 0 ≤ a → 0 ≤ b → a ≠ b) ∧ ∀ x ∈ ms, 0 ≤ x → x ∉ tk
  | [], tk => by simp [freeOk]
  | m :: ms, tk => by
    unfold freeOk
    rw [List.pairwise_cons]
    by_cases h0 : 0 ≤ m
    · rw [if_pos h0]
      by_cases hm : m ∈ tk
      · rw [if_pos hm]
        constructor
        · intro z; cases z
        · rintro ⟨_, z⟩; exact absurd hm (z m (List.mem_cons_self ..) h0)
      · rw [if_neg hm, freeOk_iff]
        constructor
        · rintro ⟨a, b⟩
          refine ⟨⟨fun x hx _ h1 e => b x hx h1 (by rw [e]; simp), a⟩, fun x hx h1 => ?_⟩
          rcases List.mem_cons.mp hx with rfl | hx
          · exact hm
          · exact fun z => b x hx h1 (List.mem_append_left _ z)
        · rintro ⟨⟨a1, a2⟩, b⟩
          refine ⟨a2, fun x hx h1 z => ?_⟩
          rcases List.mem_append.mp z with z | z
          · exact b x (List.mem_cons_of_mem _ hx) h1 z
          · have : x = m := by simpa using z
            exact a1 x hx h0 h1 this.symm
    · rw [if_neg h0, freeOk_iff]
      constructor
      · rintro ⟨a, b⟩
        refine ⟨⟨fun x _ h1 _ _ => absurd h1 h0, a⟩, fun x hx h1 => ?_⟩
        rcases List.mem_cons.mp hx with rfl | hx
        · exact absurd h1 h0
        · exact b x hx h1
      · rintro ⟨⟨_, a2⟩, b⟩
        exact ⟨a2, fun x hx h1 => b x (List.mem_cons_of_mem _ hx) h1⟩
/-! ### rows -/
structure Row where
  s : Ship
  n : Int
  c : Int
  q : Go
def Row.at (r : Row) (t : Int) : Place := placeAt r.c r.s r.q t
def Row.says (r : Row) (t : Int) : Int := tellAt r.q t
def Row.paid (r : Row) (t : Int) : Int := TW.paid r.c r.s r.q t
def Row.ship (r : Row) : Ship := { r.s with ready := r.c }
theorem zip_maps {α β γ : Type} {f : α → β} {g : α → γ} : ∀ l : List α, (l.map f).zip (l.map g) = l.map fun a => (f a, g a)
  | [] => rfl
  | a :: l => by rw [List.map_cons, List.map_cons, List.zip_cons_cons, zip_maps l]; rfl
def sumR (R : List Row) (f : Row → Int) : Int := (R.map f).sum
theorem sumR_add {R : List Row} {f g : Row → Int} : sumR R (fun r => f r + g r) = sumR R f + sumR R g := by
  unfold sumR
  induction R with
  | nil => rfl
  | cons r R ih => simp only [List.map_cons, List.sum_cons, ih]; omega
theorem sumR_congr {R : List Row} {f g : Row → Int} (h : ∀ r ∈ R, f r = g r) : sumR R f = sumR R g := by
  unfold sumR
  rw [List.map_congr_left h]
theorem sumR_le {R : List Row} {f g : Row → Int} (h : ∀ r ∈ R, f r ≤ g r) : sumR R f ≤ sumR R g := by
  unfold sumR
  induction R with
  | nil => exact Int.le_refl _
  | cons r R ih =>
    simp only [List.map_cons, List.sum_cons]
    have := h r (List.mem_cons_self ..)
    have := ih fun x hx => h x (List.mem_cons_of_mem _ hx)
    omega
/-- who moves at t -/
def Row.mv (t : Int) (r : Row) : Bool := decide (t = r.q.f) || decide (t = r.q.o)
def fitR (h : Harb) (R : List Row) (t : Int) : Prop := ((R.filter (Row.mv t)).length : Int) ≤ h.pilots ∧ ((R.filter (Row.mv t)).map fun r => r.s.need).sum ≤ h.tugs
def apart2 (x y : Go) : Prop := x.b = y.b → x.o < y.f ∨ y.o < x.f
theorem apart_iff {x y : Go} : lawApart x y = true ↔ apart2 x y := by
  unfold lawApart apart2
  by_cases e : x.b = y.b
  · rw [if_neg (by simpa using e), Bool.or_eq_true, decide_eq_true_eq, decide_eq_true_eq]
    exact ⟨fun h _ => h, fun h => h e⟩
  · rw [if_pos e]
    exact ⟨fun _ z => absurd z e, fun _ => rfl⟩
end TW
/-! A plan gives a bound. -/
namespace TW
section
variable {h : Harb} {R : List Row} {t : Int}
def shipsR (R : List Row) : List Ship := R.map (·.s)
def spansR (R : List Row) : List Int := R.map (·.n)
def placesR (R : List Row) (t : Int) : List Place := R.map fun r => r.at t
def saysR (R : List Row) (t : Int) : List Int := R.map fun r => r.says t
structure Base (R : List Row) : Prop where
  fit : ∀ r ∈ R, Fit r.c r.s r.q
  stay : ∀ r ∈ R, 0 ≤ r.s.stay
theorem cost_rows : costOf (shipsR R) (placesR R t) (saysR R t) = sumR R fun r => costOne r.s (r.at t) (r.says t) := by
  unfold costOf shipsR placesR saysR sumR
  rw [zip_maps, zip_maps, List.map_map]
  rfl
theorem later_rows : laterOf (shipsR R) (placesR R t) (saysR R t) = R.map fun r => placeBehind r.s (r.at t) (r.says t) := by
  unfold laterOf shipsR placesR saysR
  rw [zip_maps, zip_maps, List.map_map]
  rfl
theorem end_rows (B : Base R) : isEnd (placesR R t) (saysR R t) = true ↔ ∀ r ∈ R, r.q.o ≤ t := by
  unfold isEnd placesR saysR
  rw [zip_maps, List.all_map, List.all_eq_true]
  constructor
  · intro a r hr
    have := a r hr
    simp only [Function.comp, Bool.or_eq_true, decide_eq_true_eq] at this
    rcases this with e | e
    · have := (place_gone (B.fit r hr) (B.stay r hr)).mp e
      omega
    · have := (tell_out (B.fit r hr) (B.stay r hr)).mp e
      omega
  · intro a r hr
    have := a r hr
    simp only [Function.comp, Bool.or_eq_true, decide_eq_true_eq]
    by_cases e : r.q.o = t
    · exact .inr ((tell_out (B.fit r hr) (B.stay r hr)).mpr e.symm)
    · exact .inl ((place_gone (B.fit r hr) (B.stay r hr)).mpr (by omega))
theorem taken_rows {x : Int} : x ∈ takenOf (placesR R t) ↔ ∃ r ∈ R, lieB (r.at t) = true ∧ x = r.q.b := by
  unfold takenOf placesR
  constructor
  · intro hx
    obtain ⟨p, hp, rfl⟩ := List.mem_map.mp hx
    obtain ⟨hp, hl⟩ := List.mem_filter.mp hp
    obtain ⟨r, hr, rfl⟩ := List.mem_map.mp hp
    exact ⟨r, hr, hl, place_berth hl⟩
  · rintro ⟨r, hr, hl, rfl⟩
    exact List.mem_map.mpr ⟨r.at t, List.mem_filter.mpr ⟨List.mem_map.mpr ⟨r, hr, rfl⟩, hl⟩, place_berth hl⟩
theorem moving_rows (B : Base R) : movingOf (shipsR R) (saysR R t) = (R.filter (Row.mv t)).map fun r => r.s.need := by
  unfold movingOf shipsR saysR
  rw [zip_maps, List.filter_map, List.map_map]
  have : ∀ {l : List Row}, (∀ r ∈ l, r ∈ R) → l.filter ((fun r : Ship × Int => !decide (r.2 = -1)) ∘ fun a : Row => (a.s, a.says t)) = l.filter (Row.mv t) := by
    intro l hl
    refine List.filter_congr fun r hr => ?_
    show (!decide (tellAt r.q t = -1)) = (decide (t = r.q.f) || decide (t = r.q.o))
    rw [Bool.eq_iff_iff, Bool.or_eq_true, decide_eq_true_eq, decide_eq_true_eq]
    simp only [Bool.not_eq_true', decide_eq_false_iff_not]
    rw [tell_stays (B.fit r (hl r hr))]
    omega
  rw [this fun r hr => hr]
  rfl
theorem pair_mem {α : Type} {P : α → α → Prop} : ∀ {l : List α} {a b : α}, l.Pairwise P → a ∈ l → b ∈ l → a = b ∨ P a b ∨ P b a
  | x :: l, a, b, h, ha, hb => by
    rw [List.pairwise_cons] at h
    rcases List.mem_cons.mp ha with ea | ha2
    · rcases List.mem_cons.mp hb with eb | hb2
      · exact .inl (ea.trans eb.symm)
      · exact .inr (.inl (ea ▸ h.1 b hb2))
    · rcases List.mem_cons.mp hb with eb | hb2
      · exact .inr (.inr (eb ▸ h.1 a ha2))
      · exact pair_mem h.2 ha2 hb2
/-- plans that can be followed -/
structure Good (h : Harb) (R : List Row) : Prop extends Base R where
  now : ∀ r ∈ R, r.c = r.s.ready ∧ r.n = 0 ∧ 0 ≤ r.c
  berth : ∀ r ∈ R, r.q.b.toNat < h.berths.length ∧ r.s.len ≤ h.berths.getD r.q.b.toNat 0
  deep : ∀ r ∈ R, r.s.dr ≤ depthAt h r.q.f ∧ r.s.dr ≤ depthAt h r.q.o
  last : ∀ r ∈ R, r.q.o ≤ h.last
  pairs : R.Pairwise fun a b => apart2 a.q b.q
  hours : ∀ t, fitR h R t
theorem stays_mem {s : Ship} {p : Place} : -1 ∈ choices h t s p := by
  unfold choices
  split
  · simp
  · cases p with
    | sea => exact List.mem_cons_self ..
    | lies b l =>
      show -1 ∈ (if l = 0 then [-2, -1] else [-1] : List Int)
      split <;> simp
    | far => exact List.mem_cons_self ..
    | gone => exact List.mem_cons_self ..
theorem says_choice (G : Good h R) {r : Row} (hr : r ∈ R) : r.says t ∈ choices h t r.s (r.at t) := by
  obtain ⟨h1, h2, h3⟩ := G.fit r hr
  have hst := G.stay r hr
  obtain ⟨b1, b2⟩ := G.berth r hr
  obtain ⟨d1, d2⟩ := G.deep r hr
  unfold Row.says tellAt
  by_cases a : t = r.q.f
  · rw [if_pos a]
    have hp : r.at t = .sea := place_sea.mpr ⟨by omega, by omega⟩
    rw [hp]
    unfold choices
    rw [if_neg (by rw [a]; omega)]
    refine List.mem_cons_of_mem _ (List.mem_map.mpr ⟨r.q.b.toNat, List.mem_filter.mpr ⟨List.mem_range.mpr b1, decide_eq_true b2⟩, ?_⟩)
    omega
  · rw [if_neg a]
    by_cases b : t = r.q.o
    · rw [if_pos b]
      have hp : readyOut (r.at t) = true := (place_out ⟨h1, h2, h3⟩).mpr ⟨by omega, by omega, by omega⟩
      unfold choices
      rw [if_neg (by rw [b]; omega)]
      cases e : r.at t with
      | lies bb l =>
        rw [e] at hp
        have hl : l = 0 := of_decide_eq_true hp
        show -2 ∈ (if l = 0 then [-2, -1] else [-1] : List Int)
        rw [if_pos hl]
        simp
      | far => rw [e] at hp; cases hp
      | sea => rw [e] at hp; cases hp
      | gone => rw [e] at hp; cases hp
    · rw [if_neg b]
      exact stays_mem
theorem says_free (B : Base R) (pairs : R.Pairwise fun a b => apart2 a.q b.q) : freeOk (takenOf (placesR R t)) (saysR R t) = true := by
  rw [freeOk_iff]
  constructor
  · unfold saysR
    rw [List.pairwise_map]
    have all : ∀ r ∈ R, Fit r.c r.s r.q ∧ 0 ≤ r.s.stay := fun r hr => ⟨B.fit r hr, B.stay r hr⟩
    refine List.Pairwise.imp_of_mem (fun {a b} ha hb hab h1 h2 e => ?_) pairs
    obtain ⟨fa, sa⟩ := all a ha
    obtain ⟨fb, sb⟩ := all b hb
    have ta := (tell_in fa).mp h1
    have tb := (tell_in fb).mp h2
    have eb : a.q.b = b.q.b := by
      have e' : tellAt a.q t = tellAt b.q t := e
      unfold tellAt at e'
      rwa [if_pos ta, if_pos tb] at e'
    have := hab eb
    have := fa.fo
    have := fb.fo
    omega
  · intro x hx h0 ht
    obtain ⟨r, hr, rfl⟩ := List.mem_map.mp hx
    obtain ⟨r', hr', hl, e⟩ := taken_rows.mp ht
    have hl := place_lies.mp hl
    have tf := (tell_in (B.fit r hr)).mp h0
    have eb : r.q.b = r'.q.b := by
      have e' : tellAt r.q t = r'.q.b := e
      unfold tellAt at e'
      rwa [if_pos tf] at e'
    have f1 := (B.fit r hr).fo
    have s1 := B.stay r hr
    rcases pair_mem pairs hr hr' with rfl | q | q
    · omega
    · have := q eb
      omega
    · have := q eb.symm
      omega
theorem says_moves (G : Good h R) : saysR R t ∈ movesOf h (shipsR R) (t, placesR R t) := by
  unfold movesOf
  refine List.mem_filter.mpr ⟨?_, ?_⟩
  · rw [mem_prod]
    unfold choiceRows shipsR placesR saysR
    rw [zip_maps, List.map_map]
    exact Pick.mk fun r hr => says_choice G hr
  · unfold goes
    rw [says_free G.toBase G.pairs, moving_rows G.toBase]
    obtain ⟨a, b⟩ := G.hours t
    rw [List.length_map, decide_eq_true a, decide_eq_true b]
    rfl
theorem placesR_len : (placesR R t).length = (shipsR R).length := by unfold placesR shipsR; rw [List.length_map, List.length_map]
theorem spansR_len : (spansR R).length = (shipsR R).length := by unfold spansR shipsR; rw [List.length_map, List.length_map]
/-- where nothing is open, one place list comes -/
theorem come_one (now : ∀ r ∈ R, r.c = r.s.ready ∧ r.n = 0 ∧ 0 ≤ r.c) {places qs : List Place} (w : Row → Place) (hp : places = R.map w) (hf : ∀ r ∈ R, w r = .far → t ≤ r.c) (hn : ∀ r ∈ R, arrive r.c t (w r) = r.at t) (hq : qs ∈ come (shipsR R) (spansR R) t places) : qs = placesR R t := by
  subst hp
  obtain ⟨l, a⟩ := (come_iff spansR_len (by unfold shipsR; rw [List.length_map, List.length_map])).mp hq
  apply List.ext_getElem?
  intro i
  by_cases hi : i < R.length
  · obtain ⟨r, hr⟩ := at_of hi
    have rm := List.mem_of_getElem? hr
    obtain ⟨n1, n2, n3⟩ := now r rm
    obtain ⟨x, hx⟩ := at_of (l := qs) (i := i) (by rw [l]; unfold shipsR; rw [List.length_map]; exact hi)
    have := a i r.s r.n (w r) x (map_at' hr) (map_at' hr) (map_at' hr) hx
    rw [n2] at this
    have := row0 (fun e => by rw [← n1]; exact hf r rm e) this
    rw [hx]
    unfold placesR
    rw [map_at' hr, this, ← n1, hn r rm]
  · rw [List.getElem?_eq_none (by rw [l]; unfold shipsR; rw [List.length_map]; omega), List.getElem?_eq_none (by unfold placesR; rw [List.length_map]; omega)]
theorem paid_sum (B : Base R) : sumR R (fun r => r.paid (t + 1)) = sumR R (fun r => r.paid t) + costOf (shipsR R) (placesR R t) (saysR R t) := by
  rw [cost_rows, ← sumR_add]
  exact sumR_congr fun r hr => paid_next (B.fit r hr) (B.stay r hr)
theorem paid_done (B : Base R) {t u : Int} (h1 : ∀ r ∈ R, r.q.o < t) (h2 : ∀ r ∈ R, r.q.o < u) : sumR R (fun r => r.paid t) = sumR R (fun r => r.paid u) :=
  sumR_congr fun r hr => (paid_end (B.fit r hr) (h1 r hr) (B.stay r hr)).trans (paid_end (B.fit r hr) (h2 r hr) (B.stay r hr)).symm
theorem val_plan (G : Good h R) : ∀ (k : Nat) (t : Int), t ≤ h.last → (k : Int) = h.last - t + 1 → ∃ v, valN h (shipsR R) (spansR R) k (t, placesR R t) = some v ∧ v + sumR R (fun r => r.paid t) ≤ sumR R (fun r => r.paid (h.last + 1))
  | 0, t, ht, hk => by omega
  | k + 1, t, ht, hk => by
    have hm := says_moves (t := t) G
    have ps := paid_sum (t := t) G.toBase
    have key : ∃ v, sureBy h (shipsR R) (spansR R) (t, placesR R t) (saysR R t) (valN h (shipsR R) (spansR R) k) = some v ∧ v + sumR R (fun r => r.paid t) ≤ sumR R (fun r => r.paid (h.last + 1)) := by
      unfold sureBy
      by_cases he : isEnd (placesR R t) (saysR R t) = true
      · have hmis : ¬ misses h (t, placesR R t) (saysR R t) = true := by
          unfold misses
          show ¬ (_ && !isEnd (placesR R t) (saysR R t)) = true
          rw [he]
          simp
        rw [if_neg hmis]
        have hb : statesBehind h (shipsR R) (spansR R) (t, placesR R t) (saysR R t) = [] := if_pos (.inl he)
        rw [hb]
        refine ⟨_, rfl, ?_⟩
        have ho := (end_rows G.toBase).mp he
        have pd := paid_done (t := t + 1) (u := h.last + 1) G.toBase (fun r hr => by have := ho r hr; omega) (fun r hr => by have := ho r hr; omega)
        show costOf (shipsR R) (placesR R t) (saysR R t) + 0 + _ ≤ _
        omega
      · have hl : t ≠ h.last := fun e => he ((end_rows G.toBase).mpr fun r hr => by have := G.last r hr; omega)
        have hmis : ¬ misses h (t, placesR R t) (saysR R t) = true := by
          unfold misses
          show ¬ (decide (t = h.last) && _) = true
          rw [decide_eq_false hl]
          simp
        rw [if_neg hmis]
        have hb : statesBehind h (shipsR R) (spansR R) (t, placesR R t) (saysR R t) = (come (shipsR R) (spansR R) (t + 1) (laterOf (shipsR R) (placesR R t) (saysR R t))).map fun ps => (t + 1, ps) := if_neg (fun z => z.elim he hl)
        rw [hb, later_rows, List.map_map]
        obtain ⟨v, hv, le⟩ := val_plan G k (t + 1) (by omega) (by omega)
        have one : ∀ qs ∈ come (shipsR R) (spansR R) (t + 1) (R.map fun r => placeBehind r.s (r.at t) (r.says t)), qs = placesR R (t + 1) := fun qs hq =>
          come_one G.now (fun r => placeBehind r.s (r.at t) (r.says t)) rfl (fun r hr e => by
            by_cases hc : t < r.c
            · omega
            · exfalso
              have n := place_next (t := t) (G.fit r hr) (G.stay r hr)
              have e' : placeBehind r.s (placeAt r.c r.s r.q t) (tellAt r.q t) = .far := e
              unfold placeBehind at e'
              split at e'
              · cases e'
              · split at e'
                · cases e'
                · cases ep : placeAt r.c r.s r.q t with
                  | far => exact hc (place_far.mp ep)
                  | sea => rw [ep] at e'; cases e'
                  | gone => rw [ep] at e'; cases e'
                  | lies b l => rw [ep] at e'; cases e') (fun r hr => place_next (G.fit r hr) (G.stay r hr)) hq
        have gr : greatest ((come (shipsR R) (spansR R) (t + 1) (R.map fun r => placeBehind r.s (r.at t) (r.says t))).map ((valN h (shipsR R) (spansR R) k) ∘ fun ps => (t + 1, ps))) = some v := by
          obtain ⟨qs, hq⟩ := come_ne (spans := spansR R) (ships := shipsR R) spansR_len (hour := t + 1) (places := R.map fun r => placeBehind r.s (r.at t) (r.says t)) (by unfold shipsR; rw [List.length_map, List.length_map])
          have hvq : ((valN h (shipsR R) (spansR R) k) ∘ fun ps => (t + 1, ps)) qs = some v := by
            show valN h (shipsR R) (spansR R) k (t + 1, qs) = some v
            rw [one qs hq, hv]
          refine greatest_some.mpr ⟨fun o ho => ?_, fun e => ?_, fun _ => List.mem_map.mpr ⟨qs, hq, hvq⟩⟩
          · obtain ⟨x, hx, rfl⟩ := List.mem_map.mp ho
            refine ⟨v, ?_, Int.le_refl _⟩
            show valN h (shipsR R) (spansR R) k (t + 1, x) = some v
            rw [one x hx, hv]
          · rw [List.map_eq_nil_iff] at e
            rw [e] at hq
            cases hq
        rw [gr]
        refine ⟨_, rfl, ?_⟩
        show costOf (shipsR R) (placesR R t) (saysR R t) + v + _ ≤ _
        omega
    obtain ⟨v, hv, le⟩ := key
    obtain ⟨w, hw, le2⟩ := best_mem (l := (movesOf h (shipsR R) (t, placesR R t)).map fun m => sureBy h (shipsR R) (spansR R) (t, placesR R t) m (valN h (shipsR R) (spansR R) k)) (List.mem_map.mpr ⟨_, hm, hv⟩)
    exact ⟨w, hw, by omega⟩
/-- a plan bounds the sure cost -/
theorem sure_plan (G : Good h R) (hl : 0 ≤ h.last) : ∃ v, sureCost h (shipsR R) (spansR R) = some v ∧ v ≤ sumR R (fun r => r.paid (h.last + 1)) := by
  obtain ⟨v, hv, le⟩ := val_plan G (h.last + 1).toNat 0 hl (by omega)
  have p0 : sumR R (fun r => r.paid 0) = 0 := by
    have : sumR R (fun r => r.paid 0) = sumR R (fun _ => 0) := sumR_congr fun r hr => paid_start (G.fit r hr) (G.now r hr).2.2 (G.stay r hr)
    rw [this]
    unfold sumR
    clear G hv le this
    induction R with
    | nil => rfl
    | cons r R ih => simp only [List.map_cons, List.sum_cons, ih]; rfl
  refine ⟨v, ?_, by omega⟩
  unfold sureCost firstStates
  rw [List.map_map]
  have er : List.replicate (shipsR R).length Place.far = R.map fun _ => .far := by
    unfold shipsR
    rw [List.length_map, List.map_const']
  have one : ∀ qs ∈ come (shipsR R) (spansR R) 0 (List.replicate (shipsR R).length .far), qs = placesR R 0 := fun qs hq =>
    come_one G.now (fun _ => .far) er (fun r hr _ => (G.now r hr).2.2) (fun r hr => by
      have hc := (G.now r hr).2.2
      have hf := (G.fit r hr).cf
      unfold arrive Row.at placeAt
      by_cases e : r.c = 0
      · rw [if_pos ⟨rfl, by omega⟩, if_neg (by omega), if_pos (by omega)]
      · rw [if_neg (fun z => by have := z.2; omega), if_pos (by omega)]) hq
  have val0 : ∀ qs, val h (shipsR R) (spansR R) (0, qs) = valN h (shipsR R) (spansR R) (h.last + 1).toNat (0, qs) := fun qs => by
    unfold val
    show valN h (shipsR R) (spansR R) (h.last - 0 + 1).toNat (0, qs) = _
    rw [Int.sub_zero]
  obtain ⟨qs, hq⟩ := come_ne (spans := spansR R) (ships := shipsR R) spansR_len (hour := 0) far_len
  refine greatest_some.mpr ⟨fun o ho => ?_, fun e => ?_, fun _ => List.mem_map.mpr ⟨qs, hq, ?_⟩⟩
  · obtain ⟨x, hx, rfl⟩ := List.mem_map.mp ho
    refine ⟨v, ?_, Int.le_refl _⟩
    show val h (shipsR R) (spansR R) (0, x) = some v
    rw [val0, one x hx, hv]
  · rw [List.map_eq_nil_iff] at e
    rw [e] at hq
    cases hq
  · show val h (shipsR R) (spansR R) (0, qs) = some v
    rw [val0, one qs hq, hv]
end
end TW
/-! A sure cost gives a plan. -/
namespace TW
def newQ (s : Ship) (q : Go) (t u : Int) : Go :=
  if 0 ≤ u then ⟨t, u, t + s.stay + 1⟩ else if u = -2 then ⟨q.f, q.b, t⟩ else
    ⟨if t ≤ q.f then max q.f (t + 1) else q.f, q.b, if t ≤ q.o then max (max q.o (t + 1)) ((if t ≤ q.f then max q.f (t + 1) else q.f) + s.stay + 1) else q.o⟩
structure Step (h : Harb) (c : Int) (s : Ship) (q q' : Go) (t u : Int) : Prop where
  fit : Fit c s q'
  tell : tellAt q' t = u
  place : placeAt c s q' t = placeAt c s q t
  pf : ∀ v, v < t → (v = q'.f ↔ v = q.f)
  po : ∀ v, v < t → (v = q'.o ↔ v = q.o)
  f1 : q.f < t → q'.f = q.f ∧ q'.b = q.b
  f2 : q'.f < t → q.f < t
  o1 : q.o < t → q'.o = q.o
  o2 : q'.o < t → q.o < t
  paid : paid c s q' t = TW.paid c s q t
  into : q'.f = t → u = q'.b ∧ 0 ≤ u ∧ s.dr ≤ depthAt h t ∧ q'.b.toNat < h.berths.length ∧ s.len ≤ h.berths.getD q'.b.toNat 0
  out : q'.o = t → s.dr ≤ depthAt h t
section
variable {h : Harb} {c : Int} {s : Ship} {q : Go} {t u : Int}
theorem step_one (F : Fit c s q) (h0 : 0 ≤ s.stay) (hu : u ∈ choices h t s (placeAt c s q t)) : Step h c s q (newQ s q t u) t u := by
  obtain ⟨h1, h2, h3⟩ := id F
  rcases choice_mem hu with e | ⟨e, ho, hd⟩ | ⟨hp, hd, b, e, hb, hl⟩
  · obtain ⟨f', ef⟩ : ∃ f', f' = if t ≤ q.f then max q.f (t + 1) else q.f := ⟨_, rfl⟩
    obtain ⟨o', eo⟩ : ∃ o', o' = if t ≤ q.o then max (max q.o (t + 1)) (f' + s.stay + 1) else q.o := ⟨_, rfl⟩
    have eq : newQ s q t u = ⟨f', q.b, o'⟩ := by
      unfold newQ
      rw [if_neg (by omega), if_neg (by omega), ← ef, ← eo]
    have f1 : t ≤ q.f → t + 1 ≤ f' ∧ q.f ≤ f' := fun z => by rw [ef, if_pos z]; omega
    have f2 : ¬ t ≤ q.f → f' = q.f := fun z => by rw [ef, if_neg z]
    have o1 : t ≤ q.o → t + 1 ≤ o' ∧ q.o ≤ o' ∧ f' + s.stay < o' := fun z => by rw [eo, if_pos z]; omega
    have o2 : ¬ t ≤ q.o → o' = q.o := fun z => by rw [eo, if_neg z]
    clear ef eo
    rw [eq]
    have F' : Fit c s ⟨f', q.b, o'⟩ := by
      refine ⟨?_, ?_, h3⟩
      · show c ≤ f'
        by_cases a : t ≤ q.f
        · have := f1 a; omega
        · have := f2 a; omega
      · show f' + s.stay < o'
        by_cases a : t ≤ q.o
        · exact (o1 a).2.2
        · have := o2 a; have := f2 (by omega); omega
    refine ⟨F', ?_, ?_, fun v hv => ?_, fun v hv => ?_, fun z => ⟨f2 (by omega), rfl⟩, fun z => ?_, fun z => o2 (by omega), fun z => ?_, ?_, fun z => ?_, fun z => ?_⟩
    · rw [e, tell_stays F']
      show t ≠ f' ∧ t ≠ o'
      constructor
      · by_cases a : t ≤ q.f
        · have := f1 a; omega
        · have := f2 a; omega
      · by_cases a : t ≤ q.o
        · have := o1 a; omega
        · have := o2 a; omega
    · unfold placeAt
      show (if t < c then Place.far else if t ≤ f' then Place.sea else if t ≤ o' then Place.lies q.b (max 0 (s.stay - (t - f' - 1))) else Place.gone) = _
      by_cases a : t < c
      · rw [if_pos a, if_pos a]
      · rw [if_neg a, if_neg a]
        by_cases b : t ≤ q.f
        · rw [if_pos b, if_pos (show t ≤ f' by have := f1 b; omega)]
        · rw [if_neg b, f2 b, if_neg b]
          by_cases d : t ≤ q.o
          · rw [if_pos d, if_pos (show t ≤ o' by have := o1 d; omega)]
          · rw [if_neg d, o2 d, if_neg d]
    · show v = f' ↔ _
      by_cases a : t ≤ q.f
      · have := f1 a; omega
      · have := f2 a; omega
    · show v = o' ↔ _
      by_cases a : t ≤ q.o
      · have := o1 a; omega
      · have := o2 a; omega
    · have z : f' < t := z
      by_cases a : t ≤ q.f
      · have := f1 a; omega
      · omega
    · have z : o' < t := z
      by_cases a : t ≤ q.o
      · have := o1 a; omega
      · omega
    · unfold TW.paid
      have e1 : nSea c ⟨f', q.b, o'⟩ t = nSea c q t := by
        unfold nSea
        show max 0 (min t f' - c) = _
        by_cases a : t ≤ q.f
        · have := f1 a; omega
        · have := f2 a; omega
      have e2 : nLie s ⟨f', q.b, o'⟩ t = nLie s q t := by
        unfold nLie
        show max 0 (min t o' - (f' + 1 + s.stay)) = _
        by_cases a : t ≤ q.f
        · have := f1 a; have := o1 (by omega); omega
        · have := f2 a
          by_cases d : t ≤ q.o
          · have := o1 d; omega
          · have := o2 d; omega
      rw [e1, e2]
    · have z : f' = t := z
      by_cases a : t ≤ q.f
      · have := f1 a; omega
      · have := f2 a; omega
    · have z : o' = t := z
      by_cases a : t ≤ q.o
      · have := o1 a; omega
      · have := o2 a; omega
  · have hp := (place_out F).mp ho
    have eq : newQ s q t u = ⟨q.f, q.b, t⟩ := by
      unfold newQ
      rw [if_neg (by omega), if_pos e]
    rw [eq]
    have F' : Fit c s ⟨q.f, q.b, t⟩ := ⟨h1, (by show q.f + s.stay < t; omega), h3⟩
    refine ⟨F', ?_, ?_, fun v hv => Iff.rfl, fun v hv => ?_, fun z => ⟨rfl, rfl⟩, fun z => z, fun z => ?_, fun z => ?_, ?_, fun z => ?_, fun _ => hd⟩
    · rw [e, tell_out F' h0]
    · unfold placeAt
      show (if t < c then Place.far else if t ≤ q.f then Place.sea else if t ≤ t then Place.lies q.b (max 0 (s.stay - (t - q.f - 1))) else Place.gone) = _
      rw [if_pos (Int.le_refl t), if_pos hp.2.2]
    · show v = t ↔ v = q.o
      omega
    · show t = q.o
      omega
    · have z : t < t := z
      omega
    · unfold TW.paid
      have e2 : nLie s ⟨q.f, q.b, t⟩ t = nLie s q t := by
        unfold nLie
        show max 0 (min t t - (q.f + 1 + s.stay)) = _
        omega
      rw [e2]
      rfl
    · have z : q.f = t := z
      omega
  · have hs := place_sea.mp hp
    have hu0 : 0 ≤ u := by omega
    have eq : newQ s q t u = ⟨t, u, t + s.stay + 1⟩ := by
      unfold newQ
      rw [if_pos hu0]
    rw [eq]
    have F' : Fit c s ⟨t, u, t + s.stay + 1⟩ := ⟨hs.1, (by show t + s.stay < t + s.stay + 1; omega), hu0⟩
    refine ⟨F', ?_, ?_, fun v hv => ?_, fun v hv => ?_, fun z => ?_, fun z => ?_, fun z => ?_, fun z => ?_, ?_, fun _ => ⟨rfl, hu0, hd, ?_, ?_⟩, fun _ => hd⟩
    · unfold tellAt
      rw [if_pos rfl]
    · unfold placeAt
      show (if t < c then Place.far else if t ≤ t then Place.sea else if t ≤ t + s.stay + 1 then Place.lies u (max 0 (s.stay - (t - t - 1))) else Place.gone) = _
      rw [if_pos (Int.le_refl t), if_pos hs.2]
    · show v = t ↔ v = q.f
      omega
    · show v = t + s.stay + 1 ↔ v = q.o
      omega
    · omega
    · have z : t < t := z
      omega
    · omega
    · have z : t + s.stay + 1 < t := z
      omega
    · unfold TW.paid
      have e1 : nSea c ⟨t, u, t + s.stay + 1⟩ t = nSea c q t := by
        unfold nSea
        show max 0 (min t t - c) = _
        omega
      have e2 : nLie s ⟨t, u, t + s.stay + 1⟩ t = nLie s q t := by
        unfold nLie
        show max 0 (min t (t + s.stay + 1) - (t + 1 + s.stay)) = _
        omega
      rw [e1, e2]
    · show u.toNat < _
      omega
    · show s.len ≤ h.berths.getD u.toNat 0
      have : u.toNat = b := by omega
      rw [this]
      exact hl
theorem behind_far (F : Fit c s q) (e : placeBehind s (placeAt c s q t) (tellAt q t) = .far) : t < c := by
  unfold placeBehind at e
  split at e
  · cases e
  · split at e
    · cases e
    · cases ep : placeAt c s q t with
      | far => exact place_far.mp ep
      | sea => rw [ep] at e; cases e
      | gone => rw [ep] at e; cases e
      | lies b l => rw [ep] at e; cases e
end
structure Inv (h : Harb) (R : List Row) (t : Int) : Prop extends Base R where
  now : ∀ r ∈ R, r.s.ready ≤ r.c ∧ r.c ≤ r.s.ready + r.n ∧ 0 ≤ r.c ∧ 0 ≤ r.s.need
  into : ∀ r ∈ R, r.q.f < t → r.s.dr ≤ depthAt h r.q.f ∧ r.q.b.toNat < h.berths.length ∧ r.s.len ≤ h.berths.getD r.q.b.toNat 0 ∧ r.s.need ≤ h.tugs
  out : ∀ r ∈ R, r.q.o < t → r.s.dr ≤ depthAt h r.q.o
  pairs : R.Pairwise fun a b => a.q.f < t → b.q.f < t → apart2 a.q b.q
  hours : ∀ u, u < t → fitR h R u
theorem zip_snd {α β : Type} : ∀ {l : List α} {m : List β}, m.length ≤ l.length → (l.zip m).map (·.2) = m
  | _, [], _ => by simp
  | [], b :: m, h => by simp at h
  | a :: l, b :: m, h => by
    rw [List.zip_cons_cons, List.map_cons, zip_snd (by simpa using h)]
theorem mem_sum {l : List Int} {x : Int} (h : ∀ y ∈ l, 0 ≤ y) (hx : x ∈ l) : x ≤ l.sum := by
  induction l with
  | nil => cases hx
  | cons y l ih =>
    rw [List.sum_cons]
    have nn : 0 ≤ l.sum := by
      have : ∀ m : List Int, (∀ y ∈ m, 0 ≤ y) → 0 ≤ m.sum := by
        intro m
        induction m with
        | nil => intro _; exact Int.le_refl _
        | cons z m ih2 =>
          intro hz
          rw [List.sum_cons]
          have := hz z (List.mem_cons_self ..)
          have := ih2 fun w hw => hz w (List.mem_cons_of_mem _ hw)
          omega
      exact this l fun w hw => h w (List.mem_cons_of_mem _ hw)
    have hy := h y (List.mem_cons_self ..)
    rcases List.mem_cons.mp hx with rfl | hx
    · omega
    · have := ih (fun w hw => h w (List.mem_cons_of_mem _ hw)) hx
      omega
section
variable {h : Harb}
def upd1 (t : Int) (z : Row × Int) : Row := { z.1 with q := newQ z.1.s z.1.q t z.2 }
theorem inv_step {Z : List (Row × Int)} {t : Int} (I : Inv h (Z.map (·.1)) t) (hc : ∀ z ∈ Z, z.2 ∈ choices h t z.1.s (z.1.at t)) (hg : goes h (shipsR (Z.map (·.1))) (placesR (Z.map (·.1)) t) (Z.map (·.2)) = true) :
    Inv h (Z.map (upd1 t)) (t + 1) ∧ saysR (Z.map (upd1 t)) t = Z.map (·.2) ∧ placesR (Z.map (upd1 t)) t = placesR (Z.map (·.1)) t ∧ sumR (Z.map (upd1 t)) (fun r => r.paid t) = sumR (Z.map (·.1)) (fun r => r.paid t) := by
  have zm : ∀ z ∈ Z, z.1 ∈ Z.map (·.1) := fun z hz => List.mem_map.mpr ⟨z, hz, rfl⟩
  have st : ∀ z ∈ Z, Step h z.1.c z.1.s z.1.q (newQ z.1.s z.1.q t z.2) t z.2 := fun z hz => step_one (I.fit z.1 (zm z hz)) (I.stay z.1 (zm z hz)) (hc z hz)
  have B' : Base (Z.map (upd1 t)) := ⟨fun r hr => by obtain ⟨z, hz, rfl⟩ := List.mem_map.mp hr; exact (st z hz).fit, fun r hr => by obtain ⟨z, hz, rfl⟩ := List.mem_map.mp hr; exact I.stay z.1 (zm z hz)⟩
  have says : saysR (Z.map (upd1 t)) t = Z.map (·.2) := by
    unfold saysR
    rw [List.map_map]
    exact List.map_congr_left fun z hz => (st z hz).tell
  have ships : shipsR (Z.map (upd1 t)) = shipsR (Z.map (·.1)) := by unfold shipsR; rw [List.map_map, List.map_map]; rfl
  obtain ⟨g1, g2⟩ := Bool.and_eq_true_iff.mp hg
  obtain ⟨g2, g3⟩ := Bool.and_eq_true_iff.mp g2
  obtain ⟨fr1, fr2⟩ := freeOk_iff.mp g1
  have g2 := of_decide_eq_true g2
  have g3 := of_decide_eq_true g3
  have mv : movingOf (shipsR (Z.map (·.1))) (Z.map (·.2)) = ((Z.map (upd1 t)).filter (Row.mv t)).map fun r => r.s.need := by
    rw [← ships, ← says]
    exact moving_rows B'
  rw [mv] at g2 g3
  rw [List.length_map] at g3
  have need0 : ∀ r ∈ Z.map (upd1 t), 0 ≤ r.s.need := fun r hr => by obtain ⟨z, hz, rfl⟩ := List.mem_map.mp hr; exact (I.now z.1 (zm z hz)).2.2.2
  refine ⟨{ toBase := B', now := fun r hr => ?_, into := fun r hr hf => ?_, out := fun r hr ho => ?_, pairs := ?_, hours := fun u hu => ?_ }, says, ?_, ?_⟩
  · obtain ⟨z, hz, rfl⟩ := List.mem_map.mp hr
    exact I.now z.1 (zm z hz)
  · have hr0 := hr
    obtain ⟨z, hz, rfl⟩ := List.mem_map.mp hr
    have S := st z hz
    by_cases e : (newQ z.1.s z.1.q t z.2).f = t
    · obtain ⟨a1, a2, a3, a4, a5⟩ := S.into e
      refine ⟨by show z.1.s.dr ≤ depthAt h (newQ z.1.s z.1.q t z.2).f; rw [e]; exact a3, a4, a5, ?_⟩
      have hin : (upd1 t z) ∈ (Z.map (upd1 t)).filter (Row.mv t) := List.mem_filter.mpr ⟨hr0, by
        show (decide (t = (newQ z.1.s z.1.q t z.2).f) || _) = true
        rw [decide_eq_true e.symm]
        rfl⟩
      have := mem_sum (l := ((Z.map (upd1 t)).filter (Row.mv t)).map fun r => r.s.need) (fun y hy => by obtain ⟨r, hr, rfl⟩ := List.mem_map.mp hy; exact need0 r (List.mem_filter.mp hr).1) (List.mem_map.mpr ⟨_, hin, rfl⟩)
      exact Int.le_trans this g2
    · have lt : (newQ z.1.s z.1.q t z.2).f < t := by
        have : (newQ z.1.s z.1.q t z.2).f < t + 1 := hf
        omega
      have old := S.f2 lt
      obtain ⟨e1, e2⟩ := S.f1 old
      have := I.into z.1 (zm z hz) old
      show z.1.s.dr ≤ depthAt h (newQ z.1.s z.1.q t z.2).f ∧ (newQ z.1.s z.1.q t z.2).b.toNat < h.berths.length ∧ z.1.s.len ≤ h.berths.getD (newQ z.1.s z.1.q t z.2).b.toNat 0 ∧ z.1.s.need ≤ h.tugs
      rw [e1, e2]
      exact this
  · obtain ⟨z, hz, rfl⟩ := List.mem_map.mp hr
    have S := st z hz
    show z.1.s.dr ≤ depthAt h (newQ z.1.s z.1.q t z.2).o
    by_cases e : (newQ z.1.s z.1.q t z.2).o = t
    · rw [e]
      exact S.out e
    · have lt : (newQ z.1.s z.1.q t z.2).o < t := by
        have : (newQ z.1.s z.1.q t z.2).o < t + 1 := ho
        omega
      have old := S.o2 lt
      rw [S.o1 old]
      exact I.out z.1 (zm z hz) old
  · rw [List.pairwise_map]
    have p1 : Z.Pairwise fun a b => (a.1.q.f < t → b.1.q.f < t → apart2 a.1.q b.1.q) := List.pairwise_map.mp I.pairs
    have p2 : Z.Pairwise fun a b => (0 ≤ a.2 → 0 ≤ b.2 → a.2 ≠ b.2) := List.pairwise_map.mp fr1
    refine List.Pairwise.imp_of_mem (fun {a b} ha hb hab => ?_) (p1.and p2)
    obtain ⟨hab1, hab2⟩ := hab
    have Sa := st a ha
    have Sb := st b hb
    show (newQ a.1.s a.1.q t a.2).f < t + 1 → (newQ b.1.s b.1.q t b.2).f < t + 1 → apart2 (newQ a.1.s a.1.q t a.2) (newQ b.1.s b.1.q t b.2)
    intro fa fb eb
    -- a ship that lies keeps others away
    have away : ∀ {x y : Row × Int}, x ∈ Z → y ∈ Z → (newQ x.1.s x.1.q t x.2).f = t → (newQ y.1.s y.1.q t y.2).f < t → (newQ x.1.s x.1.q t x.2).b = (newQ y.1.s y.1.q t y.2).b → (newQ y.1.s y.1.q t y.2).o < (newQ x.1.s x.1.q t x.2).f := fun {x y} hx hy e1 e2 e3 => by
      have Sx := st x hx
      have Sy := st y hy
      obtain ⟨a1, a2, _⟩ := Sx.into e1
      have yf := Sy.f2 e2
      obtain ⟨b1, b2⟩ := Sy.f1 yf
      have yo : y.1.q.o < t := Decidable.byContradiction fun no => by
        refine fr2 x.2 (List.mem_map.mpr ⟨x, hx, rfl⟩) a2 (taken_rows.mpr ⟨y.1, zm y hy, place_lies.mpr ⟨?_, yf, by omega⟩, by rw [a1, e3, b2]⟩)
        have := (I.fit y.1 (zm y hy)).cf
        omega
      rw [Sy.o1 yo, e1]
      exact yo
    by_cases ea : (newQ a.1.s a.1.q t a.2).f = t
    · by_cases eb2 : (newQ b.1.s b.1.q t b.2).f = t
      · obtain ⟨a1, a2, _⟩ := Sa.into ea
        obtain ⟨b1, b2, _⟩ := Sb.into eb2
        exact absurd (by rw [a1, b1, eb]) (hab2 a2 b2)
      · exact .inr (away ha hb ea (by omega) eb)
    · by_cases eb2 : (newQ b.1.s b.1.q t b.2).f = t
      · exact .inl (away hb ha eb2 (by omega) eb.symm)
      · have oa := Sa.f2 (by omega)
        have ob := Sb.f2 (by omega)
        obtain ⟨a1, a2⟩ := Sa.f1 oa
        obtain ⟨b1, b2⟩ := Sb.f1 ob
        have := hab1 oa ob (by rw [← a2, ← b2, eb])
        rcases this with q | q
        · left
          rw [Sa.o1 (by omega), b1]
          exact q
        · right
          rw [Sb.o1 (by omega), a1]
          exact q
  · by_cases e : u = t
    · subst e
      exact ⟨g3, g2⟩
    · have lt : u < t := by omega
      obtain ⟨a, b⟩ := I.hours u lt
      have ef : ∀ {β : Type} (f : Row → β), (∀ z ∈ Z, f (upd1 t z) = f z.1) → ((Z.map (upd1 t)).filter (Row.mv u)).map f = ((Z.map (·.1)).filter (Row.mv u)).map f := fun f hf => by
        rw [List.filter_map, List.filter_map, List.map_map, List.map_map]
        have : Z.filter (Row.mv u ∘ upd1 t) = Z.filter (Row.mv u ∘ (·.1)) := List.filter_congr fun z hz => by
          have S := st z hz
          show (decide (u = (newQ z.1.s z.1.q t z.2).f) || decide (u = (newQ z.1.s z.1.q t z.2).o)) = (decide (u = z.1.q.f) || decide (u = z.1.q.o))
          rw [decide_eq_decide.mpr (S.pf u lt), decide_eq_decide.mpr (S.po u lt)]
        rw [this]
        exact List.map_congr_left fun z hz => hf z (List.mem_filter.mp hz).1
      have e1 := congrArg List.length (ef (fun _ => ()) fun _ _ => rfl)
      rw [List.length_map, List.length_map] at e1
      exact ⟨by rw [e1]; exact a, by rw [ef (fun r => r.s.need) fun _ _ => rfl]; exact b⟩
  · unfold placesR
    rw [List.map_map, List.map_map]
    exact List.map_congr_left fun z hz => (st z hz).place
  · unfold sumR
    rw [List.map_map, List.map_map]
    congr 1
    exact List.map_congr_left fun z hz => (st z hz).paid
def keyR (r : Row) : Ship × Int × Int := (r.s, r.n, r.c)
theorem ships_key {R R' : List Row} (e : R.map keyR = R'.map keyR) : shipsR R = shipsR R' ∧ spansR R = spansR R' := by
  have h1 : ∀ R : List Row, shipsR R = (R.map keyR).map (·.1) := fun R => by unfold shipsR; rw [List.map_map]; rfl
  have h2 : ∀ R : List Row, spansR R = (R.map keyR).map (·.2.1) := fun R => by unfold spansR; rw [List.map_map]; rfl
  rw [h1, h1, h2, h2, e]
  exact ⟨rfl, rfl⟩
theorem plan_val : ∀ (k : Nat) (t : Int) (R : List Row) (v : Int), Inv h R t → t ≤ h.last → (k : Int) = h.last - t + 1 → valN h (shipsR R) (spansR R) k (t, placesR R t) = some v →
    ∃ R' T, R'.map keyR = R.map keyR ∧ Inv h R' T ∧ T ≤ h.last + 1 ∧ (∀ r ∈ R', r.q.o < T) ∧ sumR R' (fun r => r.paid T) ≤ sumR R (fun r => r.paid t) + v
  | 0, t, R, v, _, ht, hk, _ => by omega
  | k + 1, t, R, v, I, ht, hk, hv => by
    have hv : best ((movesOf h (shipsR R) (t, placesR R t)).map fun m => sureBy h (shipsR R) (spansR R) (t, placesR R t) m (valN h (shipsR R) (spansR R) k)) = some v := hv
    obtain ⟨m, hm, hs⟩ := List.mem_map.mp (best_some hv)
    obtain ⟨ml, mc⟩ := moves_pick hm (placesR_len (R := R) (t := t))
    have mg := (List.mem_filter.mp hm).2
    have rl : (shipsR R).length = R.length := by unfold shipsR; rw [List.length_map]
    -- the rows with what they are told
    obtain ⟨Z, eR, em⟩ : ∃ Z : List (Row × Int), Z.map (·.1) = R ∧ Z.map (·.2) = m := ⟨R.zip m, zip_fst (by omega), zip_snd (by omega)⟩
    have hc : ∀ z ∈ Z, z.2 ∈ choices h t z.1.s (z.1.at t) := fun z hz => by
      obtain ⟨i, hi, e⟩ := List.mem_iff_getElem.mp hz
      have hz' : Z[i]? = some z := by rw [List.getElem?_eq_getElem hi, e]
      have r1 : R[i]? = some z.1 := by rw [← eR]; exact map_at' hz'
      exact mc i z.1.s (z.1.at t) z.2 (map_at' r1) (map_at' r1) (by rw [← em]; exact map_at' hz')
    subst eR em
    obtain ⟨I', e1, e2, e3⟩ := inv_step I hc mg
    have ek : (Z.map (upd1 t)).map keyR = (Z.map (·.1)).map keyR := by rw [List.map_map, List.map_map]; rfl
    obtain ⟨es, en⟩ := ships_key ek
    have pt : (placesR (Z.map (·.1)) t) = placesR (Z.map (upd1 t)) t := e2.symm
    have ps := paid_sum (t := t) I'.toBase
    rw [es, e2, e1, e3] at ps
    unfold sureBy at hs
    by_cases hmis : misses h (t, placesR (Z.map (·.1)) t) (Z.map (·.2)) = true
    · rw [if_pos hmis] at hs; cases hs
    · rw [if_neg hmis] at hs
      by_cases he : isEnd (placesR (Z.map (·.1)) t) (Z.map (·.2)) = true
      · have hb : statesBehind h (shipsR (Z.map (·.1))) (spansR (Z.map (·.1))) (t, placesR (Z.map (·.1)) t) (Z.map (·.2)) = [] := if_pos (.inl he)
        rw [hb] at hs
        have hs : some (costOf (shipsR (Z.map (·.1))) (placesR (Z.map (·.1)) t) (Z.map (·.2)) + 0) = some v := hs
        have hs := Option.some.inj hs
        rw [pt, ← e1] at he
        have ho := (end_rows I'.toBase).mp he
        exact ⟨Z.map (upd1 t), t + 1, ek, I', by omega, fun r hr => by have := ho r hr; omega, by omega⟩
      · have hl : t ≠ h.last := fun e => hmis (by
          unfold misses
          show (decide (t = h.last) && !isEnd (placesR (Z.map (·.1)) t) (Z.map (·.2))) = true
          rw [decide_eq_true e]
          simpa using he)
        have hb : statesBehind h (shipsR (Z.map (·.1))) (spansR (Z.map (·.1))) (t, placesR (Z.map (·.1)) t) (Z.map (·.2)) = (come (shipsR (Z.map (·.1))) (spansR (Z.map (·.1))) (t + 1) (laterOf (shipsR (Z.map (·.1))) (placesR (Z.map (·.1)) t) (Z.map (·.2)))).map fun ps => (t + 1, ps) := if_neg (fun z => z.elim he hl)
        rw [hb, List.map_map, ← es, ← en, pt, ← e1, later_rows] at hs
        cases hgr : greatest ((come (shipsR (Z.map (upd1 t))) (spansR (Z.map (upd1 t))) (t + 1) ((Z.map (upd1 t)).map fun r => placeBehind r.s (r.at t) (r.says t))).map (valN h (shipsR (Z.map (upd1 t))) (spansR (Z.map (upd1 t))) k ∘ fun ps => (t + 1, ps))) with
        | none => rw [hgr] at hs; cases hs
        | some b =>
          rw [hgr] at hs
          have hs : some (costOf (shipsR (Z.map (upd1 t))) (placesR (Z.map (upd1 t)) t) (saysR (Z.map (upd1 t)) t) + b) = some v := hs
          have hs := Option.some.inj hs
          rw [es, ← pt, e1] at hs
          have hin : placesR (Z.map (upd1 t)) (t + 1) ∈ come (shipsR (Z.map (upd1 t))) (spansR (Z.map (upd1 t))) (t + 1) ((Z.map (upd1 t)).map fun r => placeBehind r.s (r.at t) (r.says t)) := by
            refine (come_iff spansR_len (by simp [shipsR])).mpr ⟨placesR_len, fun i s n p q a1 a2 a3 a4 => ?_⟩
            obtain ⟨r, hr, rfl⟩ := map_at a1
            obtain ⟨r2, hr2, rfl⟩ := map_at a2
            obtain ⟨r3, hr3, rfl⟩ := map_at a3
            obtain ⟨r4, hr4, rfl⟩ := map_at a4
            rw [hr] at hr2 hr3 hr4
            cases hr2; cases hr3; cases hr4
            have rm := List.mem_of_getElem? hr
            obtain ⟨n1, n2, n3, _⟩ := I'.now r rm
            have pn := place_next (t := t) (I'.fit r rm) (I'.stay r rm)
            have := arrive_row (t := t + 1) (p := placeBehind r.s (r.at t) (r.says t)) n1 n2 (fun e => by have := behind_far (I'.fit r rm) e; omega)
            rwa [show arrive r.c (t + 1) (placeBehind r.s (r.at t) (r.says t)) = r.at (t + 1) from pn] at this
          obtain ⟨w, hw, le⟩ := (greatest_some.mp hgr).1 _ (List.mem_map.mpr ⟨_, hin, rfl⟩)
          have hw : valN h (shipsR (Z.map (upd1 t))) (spansR (Z.map (upd1 t))) k (t + 1, placesR (Z.map (upd1 t)) (t + 1)) = some w := hw
          obtain ⟨R', T, k1, k2, k3, k4, k5⟩ := plan_val k (t + 1) (Z.map (upd1 t)) w I' (by omega) (by omega) hw
          exact ⟨R', T, k1.trans ek, k2, k3, k4, by omega⟩
end
end TW
/-! The law's plans are these plans; the three claims. -/
namespace TW
section
variable {h : Harb}
theorem mem_deep {s : Ship} {t : Int} (hl : 0 ≤ h.last) : t ∈ lawDeep h s ↔ 0 ≤ t ∧ t ≤ h.last ∧ s.dr ≤ depthAt h t := by
  unfold lawDeep
  rw [List.mem_filter, decide_eq_true_eq, List.mem_map]
  constructor
  · rintro ⟨⟨n, hn, rfl⟩, hd⟩
    have := List.mem_range.mp hn
    exact ⟨by omega, by omega, hd⟩
  · rintro ⟨a, b, d⟩
    exact ⟨⟨t.toNat, List.mem_range.mpr (by omega), by omega⟩, d⟩
theorem mem_moves {s : Ship} {g : Go} (hl : 0 ≤ h.last) : g ∈ lawMoves h s ↔ (0 ≤ g.f ∧ g.f ≤ h.last ∧ s.dr ≤ depthAt h g.f) ∧ (0 ≤ g.o ∧ g.o ≤ h.last ∧ s.dr ≤ depthAt h g.o) ∧ (0 ≤ g.b ∧ g.b.toNat < h.berths.length) ∧ (s.ready ≤ g.f ∧ g.f + s.stay < g.o ∧ s.len ≤ h.berths.getD g.b.toNat 0 ∧ s.need ≤ h.tugs) := by
  unfold lawMoves
  rw [List.mem_flatMap]
  have ok : ∀ g : Go, goOk h s g = true ↔ (s.ready ≤ g.f ∧ g.f + s.stay < g.o ∧ s.len ≤ h.berths.getD g.b.toNat 0 ∧ s.need ≤ h.tugs) := fun g => by
    unfold goOk
    simp only [Bool.and_eq_true, decide_eq_true_eq]
  constructor
  · rintro ⟨f, hf, hg⟩
    obtain ⟨o, ho, hg⟩ := List.mem_flatMap.mp hg
    obtain ⟨hg, hk⟩ := List.mem_filter.mp hg
    obtain ⟨b, hb, rfl⟩ := List.mem_map.mp hg
    exact ⟨(mem_deep hl).mp hf, (mem_deep hl).mp ho, ⟨by show (0 : Int) ≤ (b : Int); omega, by show (b : Int).toNat < _; rw [Int.toNat_natCast]; exact List.mem_range.mp hb⟩, (ok _).mp hk⟩
  · rintro ⟨hf, ho, ⟨b0, bl⟩, hk⟩
    refine ⟨g.f, (mem_deep hl).mpr hf, List.mem_flatMap.mpr ⟨g.o, (mem_deep hl).mpr ho, List.mem_filter.mpr ⟨List.mem_map.mpr ⟨g.b.toNat, List.mem_range.mpr bl, ?_⟩, (ok g).mpr hk⟩⟩⟩
    obtain ⟨f, b, o⟩ := g
    show (⟨f, (b.toNat : Int), o⟩ : Go) = ⟨f, b, o⟩
    congr 1
    exact Int.toNat_of_nonneg b0
theorem zip_prefix {α β γ : Type} {f : α → β} {g : α → γ} : ∀ (l : List α) (m : List β), (l.map f ++ m).zip (l.map g) = l.map fun a => (f a, g a)
  | [], m => by simp
  | a :: l, m => by
    rw [List.map_cons, List.map_cons, List.cons_append, List.zip_cons_cons, zip_prefix l m]
    rfl
theorem fits_rows {X : List Row} {m : List Ship} {t : Int} : fitsAt h (X.map Row.ship ++ m) (X.map (·.q)) t = true ↔ fitR h X t := by
  unfold fitsAt fitR
  rw [zip_prefix, List.filter_map, List.length_map, List.map_map]
  have e : X.filter ((fun r : Ship × Go => decide (t = r.2.f) || decide (t = r.2.o)) ∘ fun r : Row => (r.ship, r.q)) = X.filter (Row.mv t) := rfl
  rw [e]
  have e2 : ((fun r : Ship × Go => r.1.need) ∘ fun r : Row => (r.ship, r.q)) = fun r : Row => r.s.need := rfl
  rw [e2, Bool.not_eq_true', Bool.or_eq_false_iff, decide_eq_false_iff_not, decide_eq_false_iff_not]
  omega
theorem sum_sub : ∀ {l m : List Int}, l.Sublist m → (∀ y ∈ m, 0 ≤ y) → l.sum ≤ m.sum
  | _, _, .slnil, _ => Int.le_refl _
  | _, _, .cons a s, h => by
    rw [List.sum_cons]
    have := sum_sub s fun y hy => h y (List.mem_cons_of_mem _ hy)
    have := h a (List.mem_cons_self ..)
    omega
  | _, _, .cons_cons a s, h => by
    rw [List.sum_cons, List.sum_cons]
    have := sum_sub s fun y hy => h y (List.mem_cons_of_mem _ hy)
    omega
theorem fit_prefix {X Y : List Row} {t : Int} (n0 : ∀ r ∈ X ++ Y, 0 ≤ r.s.need) (F : fitR h (X ++ Y) t) : fitR h X t := by
  obtain ⟨a, b⟩ := F
  have sub : (X.filter (Row.mv t)).Sublist ((X ++ Y).filter (Row.mv t)) := (List.sublist_append_left X Y).filter _
  refine ⟨?_, ?_⟩
  · have := sub.length_le
    omega
  · have := sum_sub (sub.map fun r => r.s.need) fun y hy => by
      obtain ⟨r, hr, rfl⟩ := List.mem_map.mp hy
      exact n0 r (List.mem_filter.mp hr).1
    omega
theorem apart2_comm {x y : Go} (a : apart2 x y) : apart2 y x := fun e => (a e.symm).symm
theorem plans_of {full : List Row} (mv : ∀ r ∈ full, r.q ∈ lawMoves h r.ship) (pairs : full.Pairwise fun a b => apart2 a.q b.q) (hours : ∀ t, fitR h full t) (n0 : ∀ r ∈ full, 0 ≤ r.s.need) :
    ∀ (rest done : List Row) (acc : List (List Go)), done ++ rest = full → done.map (·.q) ∈ acc → full.map (·.q) ∈ (rest.map Row.ship).foldl (planStep h (full.map Row.ship)) acc
  | [], done, acc, e, ha => by
    rw [List.append_nil] at e
    subst e
    exact ha
  | r :: rest, done, acc, e, ha => by
    rw [List.map_cons, List.foldl_cons]
    refine plans_of mv pairs hours n0 rest (done ++ [r]) _ (by rw [List.append_assoc]; exact e) ?_
    have rm : r ∈ full := by rw [← e]; simp
    have ap : ∀ x ∈ done, apart2 x.q r.q := fun x hx => by
      rw [← e, List.pairwise_append] at pairs
      exact pairs.2.2 x hx r (List.mem_cons_self ..)
    unfold planStep
    refine List.mem_filter.mpr ⟨List.mem_flatMap.mpr ⟨r.q, mv r rm, List.mem_map.mpr ⟨done.map (·.q), List.mem_filter.mpr ⟨ha, ?_⟩, ?_⟩⟩, ?_⟩
    · rw [List.all_eq_true]
      intro g hg
      obtain ⟨x, hx, rfl⟩ := List.mem_map.mp hg
      exact apart_iff.mpr (apart2_comm (ap x hx))
    · rw [List.map_append]
      rfl
    · unfold lawFits
      rw [List.all_eq_true]
      intro t _
      have ef : full = (done ++ [r]) ++ rest := by rw [← e, List.append_assoc]; rfl
      rw [ef, List.map_append (l₁ := done ++ [r])]
      refine fits_rows.mpr (fit_prefix (Y := rest) (fun x hx => n0 x (by rw [ef]; exact hx)) ?_)
      rw [← ef]
      exact hours t
theorem plans_inv {all : List Ship} : ∀ (ss : List Ship) (acc : List (List Go)) (p : List Go), p ∈ ss.foldl (planStep h all) acc →
    ∃ p0 p1, p0 ∈ acc ∧ p = p0 ++ p1 ∧ p1.length = ss.length ∧ (∀ (i : Nat) (s : Ship) (g : Go), ss[i]? = some s → p1[i]? = some g → g ∈ lawMoves h s) ∧ (p0.Pairwise apart2 → p.Pairwise apart2) ∧ (ss = [] ∨ lawFits h all p = true)
  | [], acc, p, hp => ⟨p, [], hp, by simp, rfl, fun i s g e => by simp at e, fun z => z, .inl rfl⟩
  | s :: ss, acc, p, hp => by
    rw [List.foldl_cons] at hp
    obtain ⟨p0, p1, h1, h2, h3, h4, h5, h6⟩ := plans_inv ss _ p hp
    obtain ⟨y1, hfit⟩ := List.mem_filter.mp h1
    obtain ⟨g, hg, y2⟩ := List.mem_flatMap.mp y1
    obtain ⟨p00, y3, rfl⟩ := List.mem_map.mp y2
    obtain ⟨y4, hap⟩ := List.mem_filter.mp y3
    refine ⟨p00, g :: p1, y4, by rw [h2, List.append_assoc]; rfl, by rw [List.length_cons, List.length_cons, h3], fun i s' g' e1 e2 => ?_, fun z => h5 ?_, .inr ?_⟩
    · cases i with
      | zero =>
        simp only [List.getElem?_cons_zero, Option.some.injEq] at e1 e2
        subst e1 e2
        exact hg
      | succ i => exact h4 i s' g' (by simpa using e1) (by simpa using e2)
    · rw [List.pairwise_append]
      refine ⟨z, by simp, fun x hx y hy => ?_⟩
      have ey : y = g := by simpa using hy
      subst ey
      exact apart2_comm (apart_iff.mp (List.all_eq_true.mp hap x hx))
    · rcases h6 with e | e
      · subst e
        have : p1 = [] := List.eq_nil_of_length_eq_zero h3
        rw [h2, this, List.append_nil]
        exact hfit
      · exact e
/-! ### one way -/
def rowOf (x : Ship × Int × Int) : Row := ⟨x.1, x.2.1, x.2.2, ⟨x.2.2, 0, x.2.2 + x.1.stay + 1⟩⟩
def atOf (x : Ship × Int × Int) : Ship := { x.1 with ready := x.2.2 }
theorem cost_plan {X : List Row} {t : Int} (B : Base X) (ho : ∀ r ∈ X, r.q.o < t) : lawCost (X.map Row.ship) (X.map (·.q)) = sumR X (fun r => r.paid t) := by
  unfold lawCost sumR
  rw [zip_maps, List.map_map]
  congr 1
  exact List.map_congr_left fun r hr => (paid_end (B.fit r hr) (ho r hr) (B.stay r hr)).symm
theorem sum_zero {R : List Row} {f : Row → Int} (h0 : ∀ r ∈ R, f r = 0) : sumR R f = 0 := by
  unfold sumR
  induction R with
  | nil => rfl
  | cons r R ih =>
    rw [List.map_cons, List.sum_cons, h0 r (List.mem_cons_self ..), ih fun x hx => h0 x (List.mem_cons_of_mem _ hx)]
    rfl
theorem sure_gives {X : List (Ship × Int × Int)} {t : Int} (hl : 0 ≤ h.last) (hp : 0 ≤ h.pilots) (ht : 0 ≤ h.tugs) (hX : ∀ x ∈ X, x.1.ready ≤ x.2.2 ∧ x.2.2 ≤ x.1.ready + x.2.1 ∧ 0 ≤ x.2.2 ∧ 0 ≤ x.1.need ∧ 0 ≤ x.1.stay)
    (hs : sureCost h (X.map (·.1)) (X.map (·.2.1)) = some t) : ∃ p, p ∈ lawPlans0 h (X.map atOf) ∧ lawCost (X.map atOf) p ≤ t := by
  have rm : ∀ r ∈ X.map rowOf, ∃ x ∈ X, r = rowOf x := fun r hr => by obtain ⟨x, hx, rfl⟩ := List.mem_map.mp hr; exact ⟨x, hx, rfl⟩
  have I : Inv h (X.map rowOf) 0 := by
    refine ⟨⟨fun r hr => ?_, fun r hr => ?_⟩, fun r hr => ?_, fun r hr hf => ?_, fun r hr ho => ?_, ?_, fun u hu => ?_⟩
    · obtain ⟨x, hx, rfl⟩ := rm r hr
      exact ⟨Int.le_refl _, by show x.2.2 + x.1.stay < x.2.2 + x.1.stay + 1; omega, Int.le_refl 0⟩
    · obtain ⟨x, hx, rfl⟩ := rm r hr
      exact (hX x hx).2.2.2.2
    · obtain ⟨x, hx, rfl⟩ := rm r hr
      obtain ⟨a, b, c, d, e⟩ := hX x hx
      exact ⟨a, b, c, d⟩
    · obtain ⟨x, hx, rfl⟩ := rm r hr
      have := (hX x hx).2.2.1
      have hf : x.2.2 < 0 := hf
      omega
    · obtain ⟨x, hx, rfl⟩ := rm r hr
      have := hX x hx
      have ho : x.2.2 + x.1.stay + 1 < 0 := ho
      omega
    · rw [List.pairwise_map]
      have : ∀ {l : List (Ship × Int × Int)}, (∀ x ∈ l, x ∈ X) → l.Pairwise fun a b => ((rowOf a).q.f < 0 → (rowOf b).q.f < 0 → apart2 (rowOf a).q (rowOf b).q) := by
        intro l
        induction l with
        | nil => intro _; exact .nil
        | cons x l ih =>
          intro hx
          refine List.pairwise_cons.mpr ⟨fun y _ z => ?_, ih fun y hy => hx y (List.mem_cons_of_mem _ hy)⟩
          have := (hX x (hx x (List.mem_cons_self ..))).2.2.1
          have z : x.2.2 < 0 := z
          omega
      exact this fun _ h => h
    · have : (X.map rowOf).filter (Row.mv u) = [] := by
        rw [List.filter_eq_nil_iff]
        intro r hr
        obtain ⟨x, hx, rfl⟩ := rm r hr
        have := hX x hx
        show ¬ (decide (u = x.2.2) || decide (u = x.2.2 + x.1.stay + 1)) = true
        rw [Bool.or_eq_true, decide_eq_true_eq, decide_eq_true_eq]
        omega
      unfold fitR
      rw [this]
      exact ⟨hp, ht⟩
  have es : shipsR (X.map rowOf) = X.map (·.1) := by unfold shipsR; rw [List.map_map]; rfl
  have en : spansR (X.map rowOf) = X.map (·.2.1) := by unfold spansR; rw [List.map_map]; rfl
  rw [← es, ← en] at hs
  -- the first state
  have hin : placesR (X.map rowOf) 0 ∈ come (shipsR (X.map rowOf)) (spansR (X.map rowOf)) 0 (List.replicate (shipsR (X.map rowOf)).length .far) := by
    refine (come_iff spansR_len far_len).mpr ⟨placesR_len, fun i s n p q a1 a2 a3 a4 => ?_⟩
    obtain ⟨r, hr, rfl⟩ := map_at a1
    obtain ⟨r2, hr2, rfl⟩ := map_at a2
    obtain ⟨r4, hr4, rfl⟩ := map_at a4
    rw [hr] at hr2 hr4
    cases hr2; cases hr4
    rw [List.getElem?_replicate] at a3
    split at a3
    · cases a3
      have rmm := List.mem_of_getElem? hr
      obtain ⟨n1, n2, n3, _⟩ := I.now r rmm
      have F := I.fit r rmm
      have := arrive_row (t := 0) (p := .far) n1 n2 (fun _ => n3)
      have e : arrive r.c 0 .far = r.at 0 := by
        have := F.cf
        unfold arrive Row.at placeAt
        by_cases e : r.c = 0
        · rw [if_pos ⟨rfl, by omega⟩, if_neg (by omega), if_pos (by omega)]
        · rw [if_neg (fun z => by have := z.2; omega), if_pos (by omega)]
      rwa [e] at this
    · cases a3
  unfold sureCost firstStates at hs
  rw [List.map_map] at hs
  obtain ⟨w, hw, le⟩ := (greatest_some.mp hs).1 _ (List.mem_map.mpr ⟨_, hin, rfl⟩)
  have hw : valN h (shipsR (X.map rowOf)) (spansR (X.map rowOf)) (h.last - 0 + 1).toNat (0, placesR (X.map rowOf) 0) = some w := hw
  obtain ⟨R', T, k1, k2, k3, k4, k5⟩ := plan_val (h.last - 0 + 1).toNat 0 (X.map rowOf) w I hl (by omega) hw
  have z0 : sumR (X.map rowOf) (fun r => r.paid 0) = 0 := sum_zero fun r hr => paid_start (I.fit r hr) (I.now r hr).2.2.1 (I.stay r hr)
  have ea : R'.map Row.ship = X.map atOf := by
    have e1 : ∀ R : List Row, R.map Row.ship = (R.map keyR).map atOf := fun R => by rw [List.map_map]; rfl
    rw [e1, k1, List.map_map, List.map_map]
    rfl
  have ff : ∀ r ∈ R', r.q.f < T ∧ 0 ≤ r.q.f ∧ r.q.o < T := fun r hr => by
    have F := k2.fit r hr
    have := F.fo
    have := F.cf
    have := k2.stay r hr
    have := k4 r hr
    have := (k2.now r hr).2.2.1
    omega
  refine ⟨R'.map (·.q), ?_, ?_⟩
  · rw [← ea]
    have := plans_of (h := h) (full := R') (fun r hr => ?_) (List.Pairwise.imp_of_mem (fun {a b} ha hb z => z (ff a ha).1 (ff b hb).1) k2.pairs) (fun u => ?_) (fun r hr => (k2.now r hr).2.2.2) R' [] [[]] rfl (by simp)
    · exact this
    · obtain ⟨f1, f2, f3⟩ := ff r hr
      obtain ⟨d1, b1, b2, t1⟩ := k2.into r hr f1
      have d2 := k2.out r hr f3
      have F := k2.fit r hr
      have := F.fo
      have := k2.stay r hr
      exact (mem_moves hl).mpr ⟨⟨f2, by omega, d1⟩, ⟨by omega, by omega, d2⟩, ⟨F.b0, b1⟩, F.cf, F.fo, b2, t1⟩
    · by_cases hu : u < T
      · exact k2.hours u hu
      · have : R'.filter (Row.mv u) = [] := by
          rw [List.filter_eq_nil_iff]
          intro r hr
          obtain ⟨f1, f2, f3⟩ := ff r hr
          show ¬ (decide (u = r.q.f) || decide (u = r.q.o)) = true
          rw [Bool.or_eq_true, decide_eq_true_eq, decide_eq_true_eq]
          omega
        unfold fitR
        rw [this]
        exact ⟨hp, ht⟩
  · rw [← ea, cost_plan k2.toBase fun r hr => (ff r hr).2.2]
    omega
/-! ### the other way -/
theorem plan_bounds {ships : List Ship} {p : List Go} (hl : 0 ≤ h.last) (hp : 0 ≤ h.pilots) (ht : 0 ≤ h.tugs) (h1 : 1 ≤ ships.length) (hS : ∀ s ∈ ships, 0 ≤ s.ready ∧ 0 ≤ s.stay) (hm : p ∈ lawPlans0 h ships) :
    ∃ v, sureCost h ships (zeros ships) = some v ∧ v ≤ lawCost ships p := by
  obtain ⟨p0, p1, a1, a2, a3, a4, a5, a6⟩ := plans_inv ships [[]] p hm
  have e0 : p0 = [] := by simpa using a1
  subst e0
  rw [List.nil_append] at a2
  subst a2
  have fits : lawFits h ships p = true := a6.resolve_left (fun e => by subst e; simp at h1)
  have pairs := a5 .nil
  -- the rows
  obtain ⟨R, eR⟩ : ∃ R : List Row, R = (ships.zip p).map fun r => (⟨r.1, 0, r.1.ready, r.2⟩ : Row) := ⟨_, rfl⟩
  have es : shipsR R = ships := by
    rw [eR]
    unfold shipsR
    rw [List.map_map]
    exact zip_fst (by omega)
  have eq : R.map (·.q) = p := by
    rw [eR, List.map_map]
    exact zip_snd (by omega)
  have en : spansR R = zeros ships := by
    have : spansR R = (shipsR R).map fun _ => 0 := by rw [eR]; unfold spansR shipsR; rw [List.map_map, List.map_map, List.map_map]; rfl
    rw [this, es]
    rfl
  have eh : R.map Row.ship = ships := by
    have : R.map Row.ship = shipsR R := by rw [eR]; unfold shipsR; rw [List.map_map, List.map_map]; rfl
    rw [this, es]
  have rw' : ∀ r ∈ R, r.n = 0 ∧ r.c = r.s.ready ∧ r.s ∈ ships ∧ r.q ∈ lawMoves h r.s := fun r hr => by
    rw [eR] at hr
    obtain ⟨x, hx, rfl⟩ := List.mem_map.mp hr
    obtain ⟨i, hi, e⟩ := List.mem_iff_getElem.mp hx
    have hx' : (ships.zip p)[i]? = some x := by rw [List.getElem?_eq_getElem hi, e]
    obtain ⟨z1, z2⟩ := zip_at hx'
    exact ⟨rfl, rfl, List.mem_of_getElem? z1, a4 i x.1 x.2 z1 z2⟩
  have G : Good h R := by
    refine ⟨⟨fun r hr => ?_, fun r hr => ?_⟩, fun r hr => ?_, fun r hr => ?_, fun r hr => ?_, fun r hr => ?_, ?_, fun t => ?_⟩
    · obtain ⟨b1, b2, b3, b4⟩ := rw' r hr
      obtain ⟨_, _, c1, c2⟩ := (mem_moves hl).mp b4
      exact ⟨by rw [b2]; exact c2.1, c2.2.1, c1.1⟩
    · exact (hS r.s (rw' r hr).2.2.1).2
    · obtain ⟨b1, b2, b3, b4⟩ := rw' r hr
      exact ⟨b2, b1, by rw [b2]; exact (hS r.s b3).1⟩
    · obtain ⟨_, _, c1, c2⟩ := (mem_moves hl).mp (rw' r hr).2.2.2
      exact ⟨c1.2, c2.2.2.1⟩
    · obtain ⟨c1, c2, _⟩ := (mem_moves hl).mp (rw' r hr).2.2.2
      exact ⟨c1.2.2, c2.2.2⟩
    · obtain ⟨_, c2, _⟩ := (mem_moves hl).mp (rw' r hr).2.2.2
      exact c2.2.1
    · rw [← eq] at pairs
      exact List.pairwise_map.mp pairs
    · by_cases ht' : t ∈ (p.map (·.f) ++ p.map (·.o)).mergeSort (fun a b => decide (a ≤ b))
      · have := List.all_eq_true.mp fits t ht'
        refine fits_rows (m := []).mp ?_
        rw [List.append_nil, eh, eq]
        exact this
      · have hn : t ∉ p.map (·.f) ++ p.map (·.o) := fun z => ht' ((List.mergeSort_perm _ _).mem_iff.mpr z)
        have : R.filter (Row.mv t) = [] := by
          rw [List.filter_eq_nil_iff]
          intro r hr
          show ¬ (decide (t = r.q.f) || decide (t = r.q.o)) = true
          rw [Bool.or_eq_true, decide_eq_true_eq, decide_eq_true_eq]
          have hq : r.q ∈ p := by rw [← eq]; exact List.mem_map.mpr ⟨r, hr, rfl⟩
          rintro (e | e)
          · exact hn (List.mem_append_left _ (List.mem_map.mpr ⟨r.q, hq, e.symm⟩))
          · exact hn (List.mem_append_right _ (List.mem_map.mpr ⟨r.q, hq, e.symm⟩))
        unfold fitR
        rw [this]
        exact ⟨hp, ht⟩
  obtain ⟨v, hv, le⟩ := sure_plan G hl
  rw [es, en] at hv
  refine ⟨v, hv, ?_⟩
  have := cost_plan (t := h.last + 1) G.toBase fun r hr => by have := G.last r hr; omega
  rw [eh, eq] at this
  rw [this]
  exact le
end
end TW
/-! The claims hold in each world. -/
namespace TW
section
variable {h : Harb} {ships : List Ship} {spans : List Int} {c : List Int}
theorem coming_at (hc : c ∈ lawComings ships spans) {i : Nat} {s : Ship} {n x : Int} (h1 : ships[i]? = some s) (h2 : spans[i]? = some n) (h3 : c[i]? = some x) : s.ready ≤ x ∧ x ≤ s.ready + n := by
  have hp := mem_prod.mp hc
  unfold spanRows at hp
  have := hp.at (map_at' (zip_at' h1 h2)) h3
  obtain ⟨t, ht, rfl⟩ := List.mem_map.mp this
  have := List.mem_range.mp ht
  have : t < (n + 1).toNat := this
  exact ⟨by show s.ready ≤ s.ready + (t : Int); omega, by show s.ready + (t : Int) ≤ s.ready + n; omega⟩
theorem ships_at {i : Nat} {s' : Ship} (h1 : (shipsAt ships c)[i]? = some s') : ∃ s x, ships[i]? = some s ∧ c[i]? = some x ∧ s' = { s with ready := x } := by
  obtain ⟨r, hr, rfl⟩ := map_at h1
  obtain ⟨a, b⟩ := zip_at hr
  exact ⟨r.1, r.2, a, b, rfl⟩
theorem zeros_rep {l : List Ship} : zeros l = List.replicate l.length 0 := by unfold zeros; exact List.map_const' ..
theorem wider_at {i : Nat} {n : Int} (hi : spans[i]? = some n) (j : Nat) : (wider spans i)[j]? = if j = i then some (n + 1) else spans[j]? := by
  have il := at_lt hi
  unfold wider
  rw [getD_at hi]
  by_cases e : j = i
  · subst e
    rw [if_pos rfl, List.append_assoc, List.getElem?_append_right (by rw [List.length_take]; omega), List.length_take, Nat.min_eq_left (Nat.le_of_lt il), Nat.sub_self]
    rfl
  · rw [if_neg e]
    by_cases lt : j < i
    · rw [List.append_assoc, List.getElem?_append_left (by rw [List.length_take]; omega), List.getElem?_take_of_lt lt]
    · rw [List.getElem?_append_right (by rw [List.length_append, List.length_take, List.length_cons, List.length_nil]; omega), List.length_append, List.length_take, List.length_cons, List.length_nil, List.getElem?_drop]
      congr 1
      omega
theorem wider_len {i : Nat} {n : Int} (hi : spans[i]? = some n) : (wider spans i).length = spans.length := by
  have il := at_lt hi
  unfold wider
  simp only [List.length_append, List.length_take, List.length_cons, List.length_nil, List.length_drop]
  omega
theorem mem_at {α : Type} {l : List α} {x : α} (h : x ∈ l) : ∃ i : Nat, l[i]? = some x := by
  obtain ⟨i, hi, e⟩ := List.mem_iff_getElem.mp h
  exact ⟨i, by rw [List.getElem?_eq_getElem hi, e]⟩
theorem zip3_at {x : Ship × Int × Int} (hx : x ∈ ships.zip (spans.zip c)) : ∃ i : Nat, ships[i]? = some x.1 ∧ spans[i]? = some x.2.1 ∧ c[i]? = some x.2.2 := by
  obtain ⟨i, hi⟩ := mem_at hx
  obtain ⟨a, b⟩ := zip_at hi
  obtain ⟨d, e⟩ := zip_at b
  exact ⟨i, a, d, e⟩
theorem claims_of (ok : Ok h ships spans) (hp : 0 ≤ h.pilots) (ht : 0 ≤ h.tugs) (r2 : ∀ s ∈ ships, s.ready ≤ 2) (n3 : ∀ n ∈ spans, n ≤ 3) (small : ∀ s ∈ ships, s.sea < 2 ^ 64 ∧ s.lie < 2 ^ 64) : Claims h ships spans := by
  have cl : ∀ c ∈ lawComings ships spans, c.length = ships.length := fun c hc => coming_len ok.nspans hc
  have atM : ∀ c ∈ lawComings ships spans, ∀ s' ∈ shipsAt ships c, ∃ s ∈ ships, ∃ x : Int, 0 ≤ x ∧ x ≤ 5 ∧ s' = { s with ready := x } := fun c hc s' hs' => by
    obtain ⟨i, hi⟩ := mem_at hs'
    obtain ⟨s, x, a, b, e⟩ := ships_at hi
    obtain ⟨n, hn⟩ := at_of (l := spans) (i := i) (by rw [ok.nspans]; exact at_lt a)
    have q := coming_at hc a hn b
    have sm := List.mem_of_getElem? a
    have := ok.ready s sm
    have := r2 s sm
    have := n3 n (List.mem_of_getElem? hn)
    exact ⟨s, sm, x, by omega, by omega, e⟩
  refine ⟨ok, small, fun c hc => ?_, fun i n hi hn => ?_, fun c hc => ?_, fun c hc t hs => ?_, fun i n hi hn => ?_⟩
  · have al := shipsAt_len (ships := ships) (cl c hc)
    refine ⟨ok.depths, ok.depths2, ok.berths, ok.berths2, ok.last, ok.last2, by rw [al]; exact ok.nships, by rw [al]; exact ok.nships2, by rw [al]; unfold zeros; rw [List.length_map], fun s' hs' => ?_, fun s' hs' => ?_, fun s' hs' => ?_, fun s' hs' => ?_, fun n hn => ?_⟩
    · obtain ⟨s, sm, x, x0, x5, rfl⟩ := atM c hc s' hs'
      exact ⟨x0, x5⟩
    · obtain ⟨s, sm, x, x0, x5, rfl⟩ := atM c hc s' hs'
      exact ok.stay s sm
    · obtain ⟨s, sm, x, x0, x5, rfl⟩ := atM c hc s' hs'
      exact ok.need s sm
    · obtain ⟨s, sm, x, x0, x5, rfl⟩ := atM c hc s' hs'
      exact ok.cost s sm
    · obtain ⟨s, _, rfl⟩ := List.mem_map.mp hn
      exact ⟨Int.le_refl _, by decide⟩
  · refine ⟨ok.depths, ok.depths2, ok.berths, ok.berths2, ok.last, ok.last2, ok.nships, ok.nships2, by rw [wider_len hi]; exact ok.nspans, ok.ready, ok.stay, ok.need, ok.cost, fun x hx => ?_⟩
    obtain ⟨j, hj⟩ := mem_at hx
    rw [wider_at hi] at hj
    split at hj
    · cases hj
      have := ok.span n (List.mem_of_getElem? hi)
      omega
    · exact ok.span x (List.mem_of_getElem? hj)
  · -- what is whole
    have al := shipsAt_len (ships := ships) (cl c hc)
    have hS : ∀ s' ∈ shipsAt ships c, 0 ≤ s'.ready ∧ 0 ≤ s'.stay := fun s' hs' => by
      obtain ⟨s, sm, x, x0, x5, rfl⟩ := atM c hc s' hs'
      have := ok.stay s sm
      exact ⟨x0, by show 0 ≤ s.stay; omega⟩
    have ez : zeros ships = zeros (shipsAt ships c) := by rw [zeros_rep, zeros_rep, al]
    rw [ez]
    have bound : ∀ p ∈ lawPlans0 h (shipsAt ships c), ∃ v, sureCost h (shipsAt ships c) (zeros (shipsAt ships c)) = some v ∧ v ≤ lawCost (shipsAt ships c) p := fun p hpm =>
      plan_bounds ok.last hp ht (by rw [al]; exact ok.nships) hS hpm
    unfold lawBest
    cases hs : sureCost h (shipsAt ships c) (zeros (shipsAt ships c)) with
    | none =>
      cases hl : lawPlans0 h (shipsAt ships c) with
      | nil => rfl
      | cons p ps =>
        obtain ⟨v, hv, _⟩ := bound p (by rw [hl]; exact List.mem_cons_self ..)
        rw [hs] at hv
        cases hv
    | some t =>
      have e1 : ((shipsAt ships c).map fun s => (s, (0 : Int), s.ready)).map (·.1) = shipsAt ships c := by rw [List.map_map]; exact List.map_id _
      have e2 : ((shipsAt ships c).map fun s => (s, (0 : Int), s.ready)).map (·.2.1) = zeros (shipsAt ships c) := by rw [List.map_map]; rfl
      have e3 : ((shipsAt ships c).map fun s => (s, (0 : Int), s.ready)).map atOf = shipsAt ships c := by rw [List.map_map]; exact List.map_id _
      obtain ⟨p, hpm, le⟩ := sure_gives (X := (shipsAt ships c).map fun s => (s, (0 : Int), s.ready)) (t := t) ok.last hp ht (fun x hx => by
        obtain ⟨s', hs', rfl⟩ := List.mem_map.mp hx
        obtain ⟨a, b⟩ := hS s' hs'
        obtain ⟨s, sm, y, y0, y5, e⟩ := atM c hc s' hs'
        have := ok.need s sm
        exact ⟨Int.le_refl _, by show s'.ready ≤ s'.ready + 0; omega, a, by show 0 ≤ s'.need; rw [e]; exact this, b⟩) (by rw [e1, e2]; exact hs)
      rw [e3] at hpm le
      symm
      refine leastO_some.mpr ⟨List.mem_map.mpr ⟨p, hpm, ?_⟩, fun y hy => ?_⟩
      · obtain ⟨v, hv, le2⟩ := bound p hpm
        rw [hs] at hv
        cases hv
        omega
      · obtain ⟨p', hp', rfl⟩ := List.mem_map.mp hy
        obtain ⟨v, hv, le2⟩ := bound p' hp'
        rw [hs] at hv
        cases hv
        exact le2
  · have l1 := cl c hc
    have lz : (spans.zip c).length = ships.length := by rw [List.length_zip, ok.nspans, l1]; omega
    have e1 : (ships.zip (spans.zip c)).map (·.1) = ships := zip_fst (by omega)
    have e2 : (ships.zip (spans.zip c)).map (·.2.1) = spans := by
      have : (ships.zip (spans.zip c)).map (·.2.1) = ((ships.zip (spans.zip c)).map (·.2)).map (·.1) := by rw [List.map_map]; rfl
      rw [this, zip_snd (by omega), zip_fst (by rw [ok.nspans, l1]; exact Nat.le_refl _)]
    have e3 : (ships.zip (spans.zip c)).map atOf = shipsAt ships c := by
      apply List.ext_getElem?
      intro i
      unfold shipsAt
      by_cases hi : i < ships.length
      · obtain ⟨s, hs⟩ := at_of hi
        obtain ⟨n, hn⟩ := at_of (l := spans) (i := i) (by rw [ok.nspans]; exact hi)
        obtain ⟨x, hx⟩ := at_of (l := c) (i := i) (by rw [l1]; exact hi)
        rw [map_at' (zip_at' hs (zip_at' hn hx)), map_at' (zip_at' hs hx)]
        rfl
      · rw [List.getElem?_eq_none (by rw [List.length_map, List.length_zip]; omega), List.getElem?_eq_none (by rw [List.length_map, List.length_zip]; omega)]
    obtain ⟨p, hpm, le⟩ := sure_gives (X := ships.zip (spans.zip c)) (t := t) ok.last hp ht (fun x hx => by
      obtain ⟨i, a1, a2, a3⟩ := zip3_at hx
      have q := coming_at hc a1 a2 a3
      have sm := List.mem_of_getElem? a1
      have := ok.ready _ sm
      have := ok.need _ sm
      have := ok.stay _ sm
      exact ⟨q.1, q.2, by omega, ok.need _ sm, by omega⟩) (by rw [e1, e2]; exact hs)
    rw [e3] at hpm le
    obtain ⟨b, hb, le2⟩ := leastO_mem (l := (lawPlans0 h (shipsAt ships c)).map (lawCost (shipsAt ships c))) (List.mem_map.mpr ⟨p, hpm, rfl⟩)
    exact ⟨b, hb, by omega⟩
  · exact sure_mono ok.nspans (by rw [wider_len hi]; exact ok.nspans) (fun j a b ha hb => by
      rw [wider_at hi] at hb
      have := ok.span a (List.mem_of_getElem? ha)
      split at hb
      · rename_i e
        subst e
        rw [hi] at ha
        cases ha
        cases hb
        omega
      · rw [ha] at hb
        cases hb
        omega) fun s hs => (ok.ready s hs).1
theorem mod_range {x : Int} {m : Int} (hm : 0 < m) : 0 ≤ x % m ∧ x % m < m := ⟨Int.emod_nonneg x (by omega), Int.emod_lt_of_pos x hm⟩
theorem span_tab {x : Int} : 0 ≤ spanTab.getD (x % 6).toNat 0 ∧ spanTab.getD (x % 6).toNat 0 ≤ 3 := by
  have := mod_range (x := x) (m := 6) (by decide)
  obtain ⟨i, hi⟩ : ∃ i : Nat, (x % 6).toNat = i := ⟨_, rfl⟩
  rw [hi]
  have : i < 6 := by omega
  match i, this with
  | 0, _ => decide
  | 1, _ => decide
  | 2, _ => decide
  | 3, _ => decide
  | 4, _ => decide
  | 5, _ => decide
theorem world_ship {D : List Int} {s : Ship} (hs : s ∈ worldS D) : (0 ≤ s.ready ∧ s.ready ≤ 2) ∧ (1 ≤ s.stay ∧ s.stay ≤ 2) ∧ 0 ≤ s.need ∧ (0 ≤ s.sea ∧ s.sea ≤ 9) ∧ (0 ≤ s.lie ∧ s.lie ≤ 9) := by
  unfold worldS shipsOf at hs
  obtain ⟨s0, h0, rfl⟩ := List.mem_map.mp hs
  obtain ⟨k, _, rfl⟩ := List.mem_map.mp h0
  generalize sl (sl D 13 28) (1 + 7 * k) (8 + 7 * k) = E
  have a1 := mod_range (x := dg E 0 % 5) (m := 3) (by decide)
  have a2 := mod_range (x := 1 + dg E 3 % 3) (m := 2) (by decide)
  have a3 := mod_range (x := dg E 4) (m := 3) (by decide)
  have a4 := mod_range (x := dg E 5) (m := 10) (by decide)
  have a5 := mod_range (x := dg E 6) (m := 10) (by decide)
  show (0 ≤ dg E 0 % 5 % 3 ∧ dg E 0 % 5 % 3 ≤ 2) ∧ (1 ≤ 1 + (1 + dg E 3 % 3) % 2 ∧ 1 + (1 + dg E 3 % 3) % 2 ≤ 2) ∧ 0 ≤ dg E 4 % 3 ∧ (0 ≤ dg E 5 % 10 ∧ dg E 5 % 10 ≤ 9) ∧ (0 ≤ dg E 6 % 10 ∧ dg E 6 % 10 ≤ 9)
  omega
theorem world_claims (D : List Int) : Claims (lawH D) (worldS D) (worldN D) := by
  have wl : 1 ≤ (worldS D).length ∧ (worldS D).length ≤ 2 := by
    have := mod_range (x := dg (sl D 13 28) 0) (m := 2) (by decide)
    unfold worldS shipsOf
    rw [List.length_map, List.length_map, List.length_range]
    omega
  have m1 := mod_range (x := dg (sl D 0 13) 0) (m := 6) (by decide)
  have m2 := mod_range (x := dg (sl D 0 13) 9) (m := 2) (by decide)
  have m3 := mod_range (x := dg (sl D 0 13) 10) (m := 5) (by decide)
  have m4 := mod_range (x := dg (sl D 0 13) 11) (m := 3) (by decide)
  have m5 := mod_range (x := dg (sl D 0 13) 12) (m := 9) (by decide)
  have dl : (lawH D).depths.length = (1 + dg (sl D 0 13) 0 % 6).toNat := by
    show ((List.range (1 + dg (sl D 0 13) 0 % 6).toNat).map _).length = _
    rw [List.length_map, List.length_range]
  have bl : (lawH D).berths.length = (1 + dg (sl D 0 13) 9 % 2).toNat := by
    show ((List.range (1 + dg (sl D 0 13) 9 % 2).toNat).map _).length = _
    rw [List.length_map, List.length_range]
  have ll : (lawH D).last = min (min (4 + dg (sl D 0 13) 12 % 9) 8) 6 := rfl
  have nn : ∀ n ∈ worldN D, 0 ≤ n ∧ n ≤ 3 := fun n hn => by
    unfold worldN at hn
    obtain ⟨k, _, rfl⟩ := List.mem_map.mp hn
    exact span_tab
  refine claims_of ⟨by omega, by omega, by omega, by omega, by omega, by omega, wl.1, wl.2, by unfold worldN; rw [List.length_map, List.length_range], fun s hs => ?_, fun s hs => (world_ship hs).2.1, fun s hs => (world_ship hs).2.2.1, fun s hs => ?_, fun n hn => ?_⟩ ?_ ?_ (fun s hs => (world_ship hs).1.2) (fun n hn => (nn n hn).2) (fun s hs => ?_)
  · have := (world_ship hs).1
    omega
  · have := (world_ship hs).2.2.2
    omega
  · have := nn n hn
    omega
  · show 0 ≤ 1 + dg (sl D 0 13) 11 % 3
    omega
  · show 0 ≤ 1 + dg (sl D 0 13) 10 % 5
    omega
  · have := (world_ship hs).2.2.2
    omega
end
end TW
set_option maxHeartbeats 0
/-! The head: what the top has written. -/
namespace TW
open PySem PySem.Spec PyProof.Rows L2
def dd (nm : Str) (i : Nat) : He.DefD := ⟨(nm, none), nm, nm, defArgs (topS i), defBody (topS i), defScope (topS i), [], []⟩
def fn : List He.DefD := [dd "depth_at" 1, dd "ships_at" 8, dd "product" 9, dd "come" 10, dd "first_states" 11, dd "choices" 12, dd "goes" 13, dd "moves_of" 14, dd "cost_of_move" 15, dd "place_behind" 16, dd "is_end" 17, dd "states_behind" 18, dd "misses" 19, dd "reached" 20, dd "greatest" 21, dd "sure_by" 22, dd "sure_numbers" 23, dd "sure_cost" 24, dd "_law_draws" 26, dd "_law_harbour" 27, dd "_law_ship" 28, dd "_law_ships" 29, dd "_law_moves" 30, dd "_law_apart" 31, dd "_law_fits" 32, dd "_law_plans" 33, dd "_law_cost" 34, dd "_law_product" 35, dd "_law_world" 36, dd "_law_all_comings" 37, dd "_law_is_whole" 38, dd "_law_at" 39, dd "law" 40]
def fa0 : List He.Fa := [.glo "depth_at", .glo "ships_at", .glo "product", .glo "come", .glo "first_states", .glo "choices", .glo "goes", .glo "moves_of", .glo "cost_of_move", .glo "place_behind", .glo "is_end", .glo "states_behind", .glo "misses", .glo "reached"]
def fa1 : List He.Fa := [.glo "greatest", .glo "sure_by", .glo "sure_numbers", .glo "sure_cost", .glo "_law_draws", .glo "_law_harbour", .glo "_law_ship", .glo "_law_ships", .glo "_law_moves", .glo "_law_apart", .glo "_law_fits", .glo "_law_plans", .glo "_law_cost", .glo "_law_product"]
def fa2 : List He.Fa := [.glo "_law_world", .glo "_law_all_comings", .glo "_law_is_whole", .glo "_law_at", .glo "law", .free "len", .free "zip", .free "tuple", .free "int", .free "sum", .free "all", .free "any", .free "max", .free "min"]
def fa3 : List He.Fa := [.free "sorted", .free "reversed", .free "range", .free "list", .free "isinstance", .free "bool", .glo "FAR", .glo "AT_SEA", .glo "GONE", .int "STAYS" (-1), .int "OUT" (-2)]
def fa : List He.Fa := fa0 ++ fa1 ++ fa2 ++ fa3
abbrev Rw : PySem.W.OpenRow := PySem.W.OpenLaw.row PySem.Challenge.rw_tidewaits_k39_whole_what_is_known_ahead
abbrev AlX : Type := He.AlD × Bool
def tups (K : PySem.W.Frag) : Bool := He.tupB K "FAR" [.int 0] && (He.tupB K "AT_SEA" [.int 1] && He.tupB K "GONE" [.int 3])
def obsX (K : PySem.W.Frag) : AlX := (He.obsD fa fn K, tups K)
def valX : AlX := (He.valD fn, true)
def obsXG (g : Addr → Option Obj) : AlX := obsX (He.frG g (He.asD g 4))
def hk : PySem.W.Hook where
  α := AlX
  obs := fun s => obsXG s.heap.get?
  val := fun _ => valX
  says := fun _ h => ∃ K : PySem.W.Frag, K.In h ∧ obsX K = valX
  of := fun _ _ e => ⟨_, He.frG_in, e⟩
  keeps := fun _ _ _ ⟨K, hK, e⟩ k => ⟨K, PySem.W.Frag.In.keeps hK k, e⟩
def ob (s : PySem.W.SharedT) : AlX := obsXG (HandSHeadRun.getT s)
theorem ob_eq (s : PySem.W.SharedT) : ob s = hk.obs s.abs := by
  have e : HandSHeadRun.getT s = s.abs.heap.get? := funext (HandSHeadRun.getT_eq s)
  unfold ob
  rw [e]
  rfl
def loose0 : List Str := ["depth_at", "ships_at", "product", "come", "first_states", "choices", "goes", "moves_of", "cost_of_move", "place_behind", "is_end", "states_behind", "misses"]
def loose1 : List Str := ["reached", "greatest", "sure_by", "sure_numbers", "sure_cost", "_law_draws", "_law_harbour", "_law_ship", "_law_ships", "_law_moves", "_law_apart", "_law_fits", "_law_plans"]
def loose2 : List Str := ["_law_cost", "_law_product", "_law_world", "_law_all_comings", "_law_is_whole", "_law_at", "FAR", "AT_SEA", "GONE", "STAYS", "OUT"]
def loose : List Str := loose0 ++ loose1 ++ loose2
theorem run (w : World) : HandSHeadRun.RunEq Rw (PySem.W.view Rw.prog [40]) hk ob 3000 loose w := by
  intro os
  kernel_rfl
end TW
namespace TW
open PySem PySem.Spec PyProof.Rows L2
theorem dt_glob {K : PySem.W.Frag} {x : Str} {i : Int} (h : He.tupB K x [.int i] = true) (G : Hp) : Dt K G (.ref (He.ga K x)) (.tuple [.int i]) := .tup (He.tupB_ok h G) (.cons (.int i) .nil)
section
variable {P : Program} {w : World} {K : PySem.W.Frag} {h : Heap} {mg : Str → Option Value} {base : Heap} {fadr : Addr}
theorem facts (X : K.In h) (G : h.Ns mainGlobals mg) (hfa : mg ("law" : Str) = some (.ref fadr)) (c : obsX K = valX) :
    ∃ fd : FuncData, (∀ (s : Shared) (v : Value), BindsTo s fd ⟨[v], []⟩ [("_law_script", v)]) ∧ ∀ base : Heap, K.In base → base.Ns mainGlobals mg → FnOk P w K mg base CX0 7 fadr fd ["_law_script"] (spS ⟨P, w, K, mg, base⟩ relLaw) := by
  have cd : He.SaysD fa fn K := congrArg (fun z : AlX => z.1) c
  have ct : tups K = true := congrArg (fun z : AlX => z.2) c
  obtain ⟨ct1, ct23⟩ := He.ba ct
  obtain ⟨ct2, ct3⟩ := He.ba ct23
  obtain ⟨fd0, F0⟩ := cd.def_ 0 (d := dd "depth_at" 1) rfl
  obtain ⟨fd1, F1⟩ := cd.def_ 1 (d := dd "ships_at" 8) rfl
  obtain ⟨fd2, F2⟩ := cd.def_ 2 (d := dd "product" 9) rfl
  obtain ⟨fd3, F3⟩ := cd.def_ 3 (d := dd "come" 10) rfl
  obtain ⟨fd4, F4⟩ := cd.def_ 4 (d := dd "first_states" 11) rfl
  obtain ⟨fd5, F5⟩ := cd.def_ 5 (d := dd "choices" 12) rfl
  obtain ⟨fd6, F6⟩ := cd.def_ 6 (d := dd "goes" 13) rfl
  obtain ⟨fd7, F7⟩ := cd.def_ 7 (d := dd "moves_of" 14) rfl
  obtain ⟨fd8, F8⟩ := cd.def_ 8 (d := dd "cost_of_move" 15) rfl
  obtain ⟨fd9, F9⟩ := cd.def_ 9 (d := dd "place_behind" 16) rfl
  obtain ⟨fd10, F10⟩ := cd.def_ 10 (d := dd "is_end" 17) rfl
  obtain ⟨fd11, F11⟩ := cd.def_ 11 (d := dd "states_behind" 18) rfl
  obtain ⟨fd12, F12⟩ := cd.def_ 12 (d := dd "misses" 19) rfl
  obtain ⟨fd13, F13⟩ := cd.def_ 13 (d := dd "reached" 20) rfl
  obtain ⟨fd14, F14⟩ := cd.def_ 14 (d := dd "greatest" 21) rfl
  obtain ⟨fd15, F15⟩ := cd.def_ 15 (d := dd "sure_by" 22) rfl
  obtain ⟨fd16, F16⟩ := cd.def_ 16 (d := dd "sure_numbers" 23) rfl
  obtain ⟨fd17, F17⟩ := cd.def_ 17 (d := dd "sure_cost" 24) rfl
  obtain ⟨fd18, F18⟩ := cd.def_ 18 (d := dd "_law_draws" 26) rfl
  obtain ⟨fd19, F19⟩ := cd.def_ 19 (d := dd "_law_harbour" 27) rfl
  obtain ⟨fd20, F20⟩ := cd.def_ 20 (d := dd "_law_ship" 28) rfl
  obtain ⟨fd21, F21⟩ := cd.def_ 21 (d := dd "_law_ships" 29) rfl
  obtain ⟨fd22, F22⟩ := cd.def_ 22 (d := dd "_law_moves" 30) rfl
  obtain ⟨fd23, F23⟩ := cd.def_ 23 (d := dd "_law_apart" 31) rfl
  obtain ⟨fd24, F24⟩ := cd.def_ 24 (d := dd "_law_fits" 32) rfl
  obtain ⟨fd25, F25⟩ := cd.def_ 25 (d := dd "_law_plans" 33) rfl
  obtain ⟨fd26, F26⟩ := cd.def_ 26 (d := dd "_law_cost" 34) rfl
  obtain ⟨fd27, F27⟩ := cd.def_ 27 (d := dd "_law_product" 35) rfl
  obtain ⟨fd28, F28⟩ := cd.def_ 28 (d := dd "_law_world" 36) rfl
  obtain ⟨fd29, F29⟩ := cd.def_ 29 (d := dd "_law_all_comings" 37) rfl
  obtain ⟨fd30, F30⟩ := cd.def_ 30 (d := dd "_law_is_whole" 38) rfl
  obtain ⟨fd31, F31⟩ := cd.def_ 31 (d := dd "_law_at" 39) rfl
  obtain ⟨fd32, F32⟩ := cd.def_ 32 (d := dd "law" 40) rfl
  have e := hfa.symm.trans (He.glo_ok X G (cd.fact 32 (f := .glo "law") rfl))
  cases e
  have b := FunD.bindsA (ps := ["_law_script"]) F32 fun _ _ _ _ _ _ us hl => match us, hl with | [_], _ => rfl
  refine ⟨fd32, fun s v => b s [v] rfl, fun base _ _ => ?_⟩
  have g : Gs ⟨P, w, K, mg, base⟩ := { len := He.free_ok X G (cd.fact 33 (f := .free "len") rfl), zip := He.free_ok X G (cd.fact 34 (f := .free "zip") rfl), tuple := He.free_ok X G (cd.fact 35 (f := .free "tuple") rfl), int := He.free_ok X G (cd.fact 36 (f := .free "int") rfl), sum := He.free_ok X G (cd.fact 37 (f := .free "sum") rfl), all := He.free_ok X G (cd.fact 38 (f := .free "all") rfl), any := He.free_ok X G (cd.fact 39 (f := .free "any") rfl), max := He.free_ok X G (cd.fact 40 (f := .free "max") rfl), min := He.free_ok X G (cd.fact 41 (f := .free "min") rfl), sorted := He.free_ok X G (cd.fact 42 (f := .free "sorted") rfl), reversed := He.free_ok X G (cd.fact 43 (f := .free "reversed") rfl), range := He.free_ok X G (cd.fact 44 (f := .free "range") rfl), list := He.free_ok X G (cd.fact 45 (f := .free "list") rfl), isinstance := He.free_ok X G (cd.fact 46 (f := .free "isinstance") rfl), bool := He.free_ok X G (cd.fact 47 (f := .free "bool") rfl), far := ⟨_, He.glo_ok X G (cd.fact 48 (f := .glo "FAR") rfl), dt_glob ct1⟩, sea := ⟨_, He.glo_ok X G (cd.fact 49 (f := .glo "AT_SEA") rfl), dt_glob ct2⟩, gone := ⟨_, He.glo_ok X G (cd.fact 50 (f := .glo "GONE") rfl), dt_glob ct3⟩, stays := He.int_ok X G (cd.fact 51 (f := .int "STAYS" (-1)) rfl), out := He.int_ok X G (cd.fact 52 (f := .int "OUT" (-2)) rfl) }
  have D0 := ok_depth (W := ⟨P, w, K, mg, base⟩) (He5.fun_of F0) (He.glo_ok X G (cd.fact 0 (f := .glo "depth_at") rfl)) (FunD.bindsN (ps := ["harbour", "hour"]) F0 fun _ _ _ _ _ _ us hl => match us, hl with | [_, _], _ => rfl) g 
  have D1 := ok_shipsAt (W := ⟨P, w, K, mg, base⟩) (He5.fun_of F1) (He.glo_ok X G (cd.fact 1 (f := .glo "ships_at") rfl)) (FunD.bindsN (ps := ["ships", "coming"]) F1 fun _ _ _ _ _ _ us hl => match us, hl with | [_, _], _ => rfl) g 
  have D2 := ok_product (W := ⟨P, w, K, mg, base⟩) (He5.fun_of F2) (He.glo_ok X G (cd.fact 2 (f := .glo "product") rfl)) (FunD.bindsN (ps := ["lists"]) F2 fun _ _ _ _ _ _ us hl => match us, hl with | [_], _ => rfl) g 
  have D3 := ok_come (W := ⟨P, w, K, mg, base⟩) (He5.fun_of F3) (He.glo_ok X G (cd.fact 3 (f := .glo "come") rfl)) (FunD.bindsN (ps := ["ships", "spans", "hour", "places"]) F3 fun _ _ _ _ _ _ us hl => match us, hl with | [_, _, _, _], _ => rfl) g D2
  have D4 := ok_first (W := ⟨P, w, K, mg, base⟩) (He5.fun_of F4) (He.glo_ok X G (cd.fact 4 (f := .glo "first_states") rfl)) (FunD.bindsN (ps := ["ships", "spans"]) F4 fun _ _ _ _ _ _ us hl => match us, hl with | [_, _], _ => rfl) g D3
  have D5 := ok_choices (W := ⟨P, w, K, mg, base⟩) (He5.fun_of F5) (He.glo_ok X G (cd.fact 5 (f := .glo "choices") rfl)) (FunD.bindsN (ps := ["harbour", "hour", "ship", "place"]) F5 fun _ _ _ _ _ _ us hl => match us, hl with | [_, _, _, _], _ => rfl) g D0
  have D6 := ok_goes (W := ⟨P, w, K, mg, base⟩) (He5.fun_of F6) (He.glo_ok X G (cd.fact 6 (f := .glo "goes") rfl)) (FunD.bindsN (ps := ["harbour", "ships", "places", "move"]) F6 fun _ _ _ _ _ _ us hl => match us, hl with | [_, _, _, _], _ => rfl) g 
  have D7 := ok_moves (W := ⟨P, w, K, mg, base⟩) (He5.fun_of F7) (He.glo_ok X G (cd.fact 7 (f := .glo "moves_of") rfl)) (FunD.bindsN (ps := ["harbour", "ships", "state"]) F7 fun _ _ _ _ _ _ us hl => match us, hl with | [_, _, _], _ => rfl) g D5 D2 D6
  have D8 := ok_cost (W := ⟨P, w, K, mg, base⟩) (He5.fun_of F8) (He.glo_ok X G (cd.fact 8 (f := .glo "cost_of_move") rfl)) (FunD.bindsN (ps := ["ships", "state", "move"]) F8 fun _ _ _ _ _ _ us hl => match us, hl with | [_, _, _], _ => rfl) g 
  have D9 := ok_behind (W := ⟨P, w, K, mg, base⟩) (He5.fun_of F9) (He.glo_ok X G (cd.fact 9 (f := .glo "place_behind") rfl)) (FunD.bindsN (ps := ["ship", "place", "told"]) F9 fun _ _ _ _ _ _ us hl => match us, hl with | [_, _, _], _ => rfl) g 
  have D10 := ok_end (W := ⟨P, w, K, mg, base⟩) (He5.fun_of F10) (He.glo_ok X G (cd.fact 10 (f := .glo "is_end") rfl)) (FunD.bindsN (ps := ["state", "move"]) F10 fun _ _ _ _ _ _ us hl => match us, hl with | [_, _], _ => rfl) g 
  have D11 := ok_states (W := ⟨P, w, K, mg, base⟩) (He5.fun_of F11) (He.glo_ok X G (cd.fact 11 (f := .glo "states_behind") rfl)) (FunD.bindsN (ps := ["harbour", "ships", "spans", "state", "move"]) F11 fun _ _ _ _ _ _ us hl => match us, hl with | [_, _, _, _, _], _ => rfl) g D10 D9 D3
  have D12 := ok_misses (W := ⟨P, w, K, mg, base⟩) (He5.fun_of F12) (He.glo_ok X G (cd.fact 12 (f := .glo "misses") rfl)) (FunD.bindsN (ps := ["harbour", "state", "move"]) F12 fun _ _ _ _ _ _ us hl => match us, hl with | [_, _, _], _ => rfl) g D10
  have D13 := ok_reached (W := ⟨P, w, K, mg, base⟩) (He5.fun_of F13) (He.glo_ok X G (cd.fact 13 (f := .glo "reached") rfl)) (FunD.bindsN (ps := ["harbour", "ships", "spans"]) F13 fun _ _ _ _ _ _ us hl => match us, hl with | [_, _, _], _ => rfl) g D4 D7 D11
  have D14 := ok_greatest (W := ⟨P, w, K, mg, base⟩) (He5.fun_of F14) (He.glo_ok X G (cd.fact 14 (f := .glo "greatest") rfl)) (FunD.bindsN (ps := ["numbers"]) F14 fun _ _ _ _ _ _ us hl => match us, hl with | [_], _ => rfl) g 
  have D15 := ok_sureBy (W := ⟨P, w, K, mg, base⟩) (He5.fun_of F15) (He.glo_ok X G (cd.fact 15 (f := .glo "sure_by") rfl)) (FunD.bindsN (ps := ["harbour", "ships", "spans", "state", "move", "numbers"]) F15 fun _ _ _ _ _ _ us hl => match us, hl with | [_, _, _, _, _, _], _ => rfl) g D12 D11 D14 D8
  have D16 := ok_numbers (W := ⟨P, w, K, mg, base⟩) (He5.fun_of F16) (He.glo_ok X G (cd.fact 16 (f := .glo "sure_numbers") rfl)) (FunD.bindsN (ps := ["harbour", "ships", "spans"]) F16 fun _ _ _ _ _ _ us hl => match us, hl with | [_, _, _], _ => rfl) g D13 D7 D15
  have D17 := ok_sure (W := ⟨P, w, K, mg, base⟩) (He5.fun_of F17) (He.glo_ok X G (cd.fact 17 (f := .glo "sure_cost") rfl)) (FunD.bindsN (ps := ["harbour", "ships", "spans"]) F17 fun _ _ _ _ _ _ us hl => match us, hl with | [_, _, _], _ => rfl) g D16 D4 D14
  have D18 := ok_draws (W := ⟨P, w, K, mg, base⟩) (He5.fun_of F18) (He.glo_ok X G (cd.fact 18 (f := .glo "_law_draws") rfl)) (FunD.bindsN (ps := ["_law_script", "_law_count"]) F18 fun _ _ _ _ _ _ us hl => match us, hl with | [_, _], _ => rfl) g 
  have D19 := ok_LH (W := ⟨P, w, K, mg, base⟩) (He5.fun_of F19) (He.glo_ok X G (cd.fact 19 (f := .glo "_law_harbour") rfl)) (FunD.bindsN (ps := ["_law_draws_here"]) F19 fun _ _ _ _ _ _ us hl => match us, hl with | [_], _ => rfl) g 
  have D20 := ok_LS (W := ⟨P, w, K, mg, base⟩) (He5.fun_of F20) (He.glo_ok X G (cd.fact 20 (f := .glo "_law_ship") rfl)) (FunD.bindsN (ps := ["_law_draws_here"]) F20 fun _ _ _ _ _ _ us hl => match us, hl with | [_], _ => rfl) g 
  have D21 := ok_LSs (W := ⟨P, w, K, mg, base⟩) (He5.fun_of F21) (He.glo_ok X G (cd.fact 21 (f := .glo "_law_ships") rfl)) (FunD.bindsN (ps := ["_law_draws_here", "_law_most"]) F21 fun _ _ _ _ _ _ us hl => match us, hl with | [_, _], _ => rfl) g D20
  have D22 := ok_LM (W := ⟨P, w, K, mg, base⟩) (He5.fun_of F22) (He.glo_ok X G (cd.fact 22 (f := .glo "_law_moves") rfl)) (FunD.bindsN (ps := ["_law_harbour_here", "_law_ship_here"]) F22 fun _ _ _ _ _ _ us hl => match us, hl with | [_, _], _ => rfl) g 
  have D23 := ok_LA (W := ⟨P, w, K, mg, base⟩) (He5.fun_of F23) (He.glo_ok X G (cd.fact 23 (f := .glo "_law_apart") rfl)) (FunD.bindsN (ps := ["_law_one", "_law_other"]) F23 fun _ _ _ _ _ _ us hl => match us, hl with | [_, _], _ => rfl) g 
  have D24 := ok_LF (W := ⟨P, w, K, mg, base⟩) (He5.fun_of F24) (He.glo_ok X G (cd.fact 24 (f := .glo "_law_fits") rfl)) (FunD.bindsN (ps := ["_law_harbour_here", "_law_ships_here", "_law_plan"]) F24 fun _ _ _ _ _ _ us hl => match us, hl with | [_, _, _], _ => rfl) g 
  have D25 := ok_Pl (W := ⟨P, w, K, mg, base⟩) (He5.fun_of F25) (He.glo_ok X G (cd.fact 25 (f := .glo "_law_plans") rfl)) (FunD.bindsN (ps := ["_law_harbour_here", "_law_ships_here"]) F25 fun _ _ _ _ _ _ us hl => match us, hl with | [_, _], _ => rfl) g D22 D23 D24
  have D26 := ok_LC (W := ⟨P, w, K, mg, base⟩) (He5.fun_of F26) (He.glo_ok X G (cd.fact 26 (f := .glo "_law_cost") rfl)) (FunD.bindsN (ps := ["_law_ships_here", "_law_plan"]) F26 fun _ _ _ _ _ _ us hl => match us, hl with | [_, _], _ => rfl) g 
  have D27 := ok_LP (W := ⟨P, w, K, mg, base⟩) (He5.fun_of F27) (He.glo_ok X G (cd.fact 27 (f := .glo "_law_product") rfl)) (FunD.bindsN (ps := ["_law_lists"]) F27 fun _ _ _ _ _ _ us hl => match us, hl with | [_], _ => rfl) g 
  have D28 := ok_LW (W := ⟨P, w, K, mg, base⟩) (He5.fun_of F28) (He.glo_ok X G (cd.fact 28 (f := .glo "_law_world") rfl)) (FunD.bindsN (ps := ["_law_draws_here"]) F28 fun _ _ _ _ _ _ us hl => match us, hl with | [_], _ => rfl) g D19 D21
  have D29 := ok_AC (W := ⟨P, w, K, mg, base⟩) (He5.fun_of F29) (He.glo_ok X G (cd.fact 29 (f := .glo "_law_all_comings") rfl)) (FunD.bindsN (ps := ["_law_ships_here", "_law_spans"]) F29 fun _ _ _ _ _ _ us hl => match us, hl with | [_, _], _ => rfl) g D27
  have D30 := ok_IW (W := ⟨P, w, K, mg, base⟩) (He5.fun_of F30) (He.glo_ok X G (cd.fact 30 (f := .glo "_law_is_whole") rfl)) (FunD.bindsN (ps := ["_law_actual", "_law_due"]) F30 fun _ _ _ _ _ _ us hl => match us, hl with | [_, _], _ => rfl) g 
  have D31 := ok_LAt (W := ⟨P, w, K, mg, base⟩) (He5.fun_of F31) (He.glo_ok X G (cd.fact 31 (f := .glo "_law_at") rfl)) (FunD.bindsN (ps := ["_law_ships_here", "_law_coming"]) F31 fun _ _ _ _ _ _ us hl => match us, hl with | [_, _], _ => rfl) g 
  have D32 := ok_law (fun ns => world_claims _) (W := ⟨P, w, K, mg, base⟩) (He5.fun_of F32) (He.glo_ok X G (cd.fact 32 (f := .glo "law") rfl)) (FunD.bindsN (ps := ["_law_script"]) F32 fun _ _ _ _ _ _ us hl => match us, hl with | [_], _ => rfl) g D18 D28 D17 D29 D31 D26 D25 D30 D1
  exact D32
end
end TW
open PySem PySem.W PySem.Calls PyProof.Rows
theorem PySem.Challenge.cw_tidewaits_k39_whole_what_is_known_ahead_holds : PySem.Challenge.rw_tidewaits_k39_whole_what_is_known_ahead.Holds := by
  w_on; o_law
  refine HandSHeadRun.head_any (r := TW.Rw) (q := view TW.Rw.prog [40]) (H := TW.hk) (ob := TW.ob) (M := 3000) (loose := TW.loose) (d := HandSHeadRun.topDef TW.Rw.prog 40) (kwd := []) TW.ob_eq
    (by kernel_rfl) (fun s => by kernel_rfl) TW.run (by kernel_rfl) (by kernel_rfl) (by kernel_rfl) (by rfl) (by first | assumption | decide +kernel) (by decide +kernel) ⟨rfl, rfl, rfl, rfl, rfl, by decide +kernel⟩ ?hw ?hc
  case hw => w_witness2
  case hc =>
    refine L2.walk_ofE (l := PySem.Challenge.rw_tidewaits_k39_whole_what_is_known_ahead) (n := 63) (k := 7) (x := "_law_script") (CX := L2.CX0) rfl (by decide) (by kernel_rfl) ⟨rfl, by decide, by decide⟩ ?F (fun _ _ _ _ z => z)
    intro w mg fa h Y G hmg0
    obtain ⟨K, KX, c⟩ := Y
    have hmg : mg ("law" : PySem.Str) = some (.ref fa) := by
      have e : (HandSHeadRun.topDef TW.Rw.prog 40).name = ("law" : PySem.Str) := by kernel_rfl
      rw [← e]
      exact hmg0
    obtain ⟨fd, hb, hF⟩ := TW.facts (P := (PySem.Challenge.rw_tidewaits_k39_whole_what_is_known_ahead).prog) (w := w) KX G hmg c
    refine ⟨K, fd, TW.spS ⟨PySem.Challenge.rw_tidewaits_k39_whole_what_is_known_ahead.prog, w, K, mg, h⟩ TW.relLaw, KX, hb, fun H a ns hl _ hS => ⟨H, a, ns, [], [], .bool true, rfl, fun _ _ q => q, hS, .nil, ⟨hl, rfl, rfl⟩, fun v G' H' _ dv => L2.dp_bl dv⟩, hF⟩
