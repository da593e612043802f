import PyProof.Rows.All
import Wide.All
import OpenK.AllK
import Wide.FinOn
import HandS.ForMost
import HandS.Wide
import HandS.Gcd
import HandS.CallLocal
import HandS.IsInst
import HandS.Strs
import HandS.Conv
import HandS.Style
import HandS.SetIn
import PySem.Challenge.RW_oddkeep_k53_whole_chances_between
set_option Elab.async false
set_option maxRecDepth 100000
section
set_option Elab.async false
set_option linter.all false
set_option maxRecDepth 100000
set_option maxHeartbeats 1000000
/-! layer G: heaps as pure data; environments of pure data; judgements -/
namespace G
open PySem L2

abbrev Dat := PyData
def Ex (H H' : Hp) : Prop := ∀ a o, H a = some o → H' a = some o
theorem Ex.refl (H : Hp) : Ex H H := fun _ _ h => h
theorem Ex.trans {H H1 H2 : Hp} (a : Ex H H1) (b : Ex H1 H2) : Ex H H2 := fun x o h => b x o (a x o h)
theorem Ex.new {H : Hp} {p : Addr} {o : HO} (h : H p = none) : Ex H (upd H p o) := fun a u e => by
  rw [upd_ne (ne_of_none e h)]; exact e
theorem Ex.rd {H H' : Hp} {a : Addr} {u : HO} (e : Ex H H') (h : Rd H a u) : Rd H' a u := by
  rcases h with h | ⟨o, h⟩
  · exact Or.inl (e a _ h)
  · exact Or.inr ⟨o, e a _ h⟩
theorem Ex.l {K : PySem.W.Frag} {H H' : Hp} {a : Addr} {xs : List V} (e : Ex H H') (h : SqL K H a xs) : SqL K H' a xs := by
  rcases h with h | h
  · exact Or.inl (e.rd h)
  · exact Or.inr h
theorem Ex.t {K : PySem.W.Frag} {H H' : Hp} {a : Addr} {xs : List V} (e : Ex H H') (h : SqT K H a xs) : SqT K H' a xs := by
  rcases h with h | h
  · exact Or.inl (e.rd h)
  · exact Or.inr h
theorem Ex.free {H H' : Hp} {p : Addr} (e : Ex H H') (h : H' p = none) : H p = none := by
  cases h1 : H p with
  | none => rfl
  | some o => rw [e p o h1] at h; cases h
theorem sq_of {K : PySem.W.Frag} {H : Hp} {a : Addr} {xs : List V} (h : H a = some (.lst xs)) : SqL K H a xs := Or.inl (Or.inl h)
theorem st_of {K : PySem.W.Frag} {H : Hp} {a : Addr} {xs : List V} (h : H a = some (.tup xs)) : SqT K H a xs := Or.inl (Or.inl h)
theorem sz_of {n : Nat} (h : n ≤ 100000) : n ≤ sizeLine := Nat.le_trans h (by decide)
theorem sz_lt {n : Nat} (h : n < 100000) : n < sizeLine := Nat.lt_of_lt_of_le h (by decide)

/-! ### data in a heap -/
section
variable {K : PySem.W.Frag} {H H' : Hp}
mutual
theorem dp_ex (e : Ex H H') : ∀ (d : PyData) (v : V), Dp K H v d → Dp K H' v d
  | .none, _, h => by cases h; exact .non
  | .bool b, _, h => by cases h; exact .bl b
  | .int i, _, h => by cases h; exact .int i
  | .str x, _, h => by cases h; exact .str x
  | .list ds, _, h => by
    cases h with
    | lst hs ha => exact .lst (e.l hs) (dpa_ex e ds _ ha)
  | .tuple ds, _, h => by
    cases h with
    | tup hs ha => exact .tup (e.t hs) (dpa_ex e ds _ ha)
  | .dict _, _, h => by cases h
theorem dpa_ex (e : Ex H H') : ∀ (ds : List PyData) (vs : List V), DpAll K H vs ds → DpAll K H' vs ds
  | [], _, h => by cases h; exact .nil
  | d :: ds, _, h => by
    cases h with
    | cons h1 h2 => exact .cons (dp_ex e d _ h1) (dpa_ex e ds _ h2)
end
theorem _root_.L2.Dp.ex {d : PyData} {v : V} (h : Dp K H v d) (e : Ex H H') : Dp K H' v d := dp_ex e d v h
theorem _root_.L2.DpAll.ex {ds : List PyData} {vs : List V} (h : DpAll K H vs ds) (e : Ex H H') : DpAll K H' vs ds := dpa_ex e ds vs h
theorem dpa_len : ∀ {vs : List V} {ds : List PyData}, DpAll K H vs ds → vs.length = ds.length
  | _, _, .nil => rfl
  | _, _, .cons _ t => by rw [List.length_cons, List.length_cons, dpa_len t]
theorem dpa_get : ∀ {vs : List V} {ds : List PyData} {i : Nat} {d : PyData}, DpAll K H vs ds → ds[i]? = some d → ∃ v, vs[i]? = some v ∧ Dp K H v d
  | _, _, _, _, .nil, h => by simp at h
  | _, _, 0, _, .cons r _, h => by simp at h; subst h; exact ⟨_, rfl, r⟩
  | _, _, i + 1, d, .cons _ t, h => by
    obtain ⟨v, h1, h2⟩ := dpa_get (i := i) (d := d) t (by simpa using h)
    exact ⟨v, by simpa using h1, h2⟩
theorem dpa_getV : ∀ {vs : List V} {ds : List PyData} {i : Nat} {v : V}, DpAll K H vs ds → vs[i]? = some v → ∃ d, ds[i]? = some d ∧ Dp K H v d
  | _, _, _, _, .nil, h => by simp at h
  | _, _, 0, _, .cons r _, h => by simp at h; subst h; exact ⟨_, rfl, r⟩
  | _, _, i + 1, d, .cons _ t, h => by
    obtain ⟨v, h1, h2⟩ := dpa_getV (i := i) (v := d) t (by simpa using h)
    exact ⟨v, by simpa using h1, h2⟩
theorem dpa_app : ∀ {vs ws : List V} {ds es : List PyData}, DpAll K H vs ds → DpAll K H ws es → DpAll K H (vs ++ ws) (ds ++ es)
  | _, _, _, _, .nil, s => s
  | _, _, _, _, .cons r t, s => .cons r (dpa_app t s)
theorem dpa_one {v : V} {d : PyData} (h : Dp K H v d) : DpAll K H [v] [d] := .cons h .nil
theorem dpa_set {v : V} {d : PyData} (h : Dp K H v d) : ∀ {vs : List V} {ds : List PyData} (i : Nat), DpAll K H vs ds → DpAll K H (vs.set i v) (ds.set i d)
  | _, _, _, .nil => .nil
  | _, _, 0, .cons _ t => .cons h t
  | _, _, i + 1, .cons r t => .cons r (dpa_set h i t)
theorem dpa_take : ∀ {vs : List V} {ds : List PyData} (n : Nat), DpAll K H vs ds → DpAll K H (vs.take n) (ds.take n)
  | _, _, 0, _ => .nil
  | _, _, _ + 1, .nil => .nil
  | _, _, n + 1, .cons r t => .cons r (dpa_take n t)
theorem dpa_drop : ∀ {vs : List V} {ds : List PyData} (n : Nat), DpAll K H vs ds → DpAll K H (vs.drop n) (ds.drop n)
  | _, _, 0, r => r
  | _, _, _ + 1, .nil => .nil
  | _, _, n + 1, .cons _ t => dpa_drop n t
theorem dpa_rev : ∀ {vs : List V} {ds : List PyData}, DpAll K H vs ds → DpAll K H vs.reverse ds.reverse
  | _, _, .nil => .nil
  | _, _, .cons r t => by
    rw [List.reverse_cons, List.reverse_cons]
    exact dpa_app (dpa_rev t) (dpa_one r)
theorem dp_int {v : V} {i : Int} (h : Dp K H v (.int i)) : v = .int i := by cases h; rfl
theorem dp_bl {v : V} {b : Bool} (h : Dp K H v (.bool b)) : v = .bl b := by cases h; rfl
theorem dp_str {v : V} {x : Str} (h : Dp K H v (.str x)) : v = .str x := by cases h; rfl
theorem dp_non {v : V} (h : Dp K H v .none) : v = .non := by cases h; rfl
theorem dp_lst {v : V} {ds : List PyData} (h : Dp K H v (.list ds)) : ∃ a xs, v = .ref a ∧ SqL K H a xs ∧ DpAll K H xs ds := by
  cases h with
  | lst hs ha => exact ⟨_, _, rfl, hs, ha⟩
theorem dp_tup {v : V} {ds : List PyData} (h : Dp K H v (.tuple ds)) : ∃ a xs, v = .ref a ∧ SqT K H a xs ∧ DpAll K H xs ds := by
  cases h with
  | tup hs ha => exact ⟨_, _, rfl, hs, ha⟩
theorem dpa_ints : ∀ {vs : List V} {ns : List Int}, DpAll K H vs (ns.map PyData.int) → vs = ns.map V.int
  | _, [], h => by cases h; rfl
  | _, n :: ns, h => by
    cases h with
    | cons h1 h2 => rw [dp_int h1, dpa_ints h2]; rfl
theorem dpa_bools : ∀ {vs : List V} {ns : List Bool}, DpAll K H vs (ns.map PyData.bool) → vs = ns.map V.bl
  | _, [], h => by cases h; rfl
  | _, n :: ns, h => by
    cases h with
    | cons h1 h2 => rw [dp_bl h1, dpa_bools h2]; rfl
theorem dpa_of_ints : ∀ (ns : List Int), DpAll K H (ns.map V.int) (ns.map PyData.int)
  | [] => .nil
  | n :: ns => .cons (.int n) (dpa_of_ints ns)
end

/-! ### a frozen part I of a heap H; how both may grow -/
structure Le (I H I' H' : Hp) : Prop where
  i : Ex I I'
  h : Ex H H'
  ih : Ex I' H'
  fr : ∀ p, H p ≠ none → I p = none → I' p = none
theorem Le.refl {I H : Hp} (e : Ex I H) : Le I H I H := ⟨.refl _, .refl _, e, fun _ _ h => h⟩
theorem Le.trans {I H I1 H1 I2 H2 : Hp} (a : Le I H I1 H1) (b : Le I1 H1 I2 H2) : Le I H I2 H2 :=
  ⟨a.i.trans b.i, a.h.trans b.h, b.ih, fun p hp hi => b.fr p (fun z => hp (a.h.free z)) (a.fr p hp hi)⟩
theorem Le.free {I H I' H' : Hp} (a : Le I H I' H') {p : Addr} (h : H' p = none) : H p = none := a.h.free h
/-- a new thing, frozen at once -/
theorem Le.new {I H : Hp} (e : Ex I H) {p : Addr} {o : HO} (h : H p = none) : Le I H (upd I p o) (upd H p o) := by
  refine ⟨.new (e.free h), .new h, fun a u q => ?_, fun q hq hi => ?_⟩
  · by_cases ha : a = p
    · subst ha; rw [upd_same] at q ⊢; exact q
    · rw [upd_ne ha] at q ⊢; exact e a u q
  · rw [upd_ne (fun z => hq (by rw [z]; exact h))]; exact hi
/-- a new thing, not frozen -/
theorem Le.raw {I H : Hp} (e : Ex I H) {p : Addr} {o : HO} (h : H p = none) : Le I H I (upd H p o) := ⟨.refl _, .new h, e.trans (.new h), fun _ _ hi => hi⟩
/-- freeze what is new since H -/
theorem Le.freeze {I H I' H' : Hp} (a : Le I H I' H') {p : Addr} {o : HO} (h : H p = none) (hi : I' p = none) (ho : H' p = some o) : Le I H (upd I' p o) H' := by
  refine ⟨a.i.trans (.new hi), a.h, fun b u q => ?_, fun q hq hn => ?_⟩
  · by_cases hb : b = p
    · subst hb; rw [upd_same] at q; rw [ho]; exact q
    · rw [upd_ne hb] at q; exact a.ih b u q
  · rw [upd_ne (fun z => hq (by rw [z]; exact h))]; exact a.fr q hq hn

/-! ### environments -/
inductive Sl where
  | any
  | dat (d : PyData)
  | val (v : V)
  | bor (ds : List PyData)
  | lis (ds : List PyData)
  | set (S : Int → Bool) (n : Nat)
  | pool (n : Nat)
def Sl.isMut : Sl → Prop
  | .lis _ => True
  | .set _ _ => True
  | _ => False
/-- a list of n ints, whatever they are -/
def PoolOk (h : Heap) (a : Addr) (n : Nat) : Prop := ∃ (its : List Value) (c : Nat) (ns : List Int), Vals (ns.map V.int) its ∧ ns.length = n ∧ h.get? a = some { cls := .type "list", data := .seq its.toArray c }
def PoolO (a : Addr) (n : Nat) : HO := .ext fun h => PoolOk h a n

section
variable (K : PySem.W.Frag) (w : World)
def SlOk (H0 I H : Hp) (x : Option V) : Sl → Prop
  | .any => True
  | .dat d => ∃ v, x = some v ∧ Dp K I v d
  | .val v => x = some v
  | .bor ds => ∃ l xs, x = some (.ref l) ∧ SqL K H0 l xs ∧ DpAll K I xs ds
  | .lis ds => ∃ l xs, x = some (.ref l) ∧ H0 l = none ∧ I l = none ∧ H l = some (.lst xs) ∧ DpAll K I xs ds
  | .set S n => ∃ a, x = some (.ref a) ∧ H0 a = none ∧ I a = none ∧ H a = some (SetO w a S n)
  | .pool n => ∃ a, x = some (.ref a) ∧ H0 a = some (PoolO a n)
structure EnvOk (H0 I H : Hp) (σ : L2.St) (ρ : List Sl) : Prop where
  base : Ex H0 H
  ih : Ex I H
  len : σ.length = ρ.length
  ok : ∀ (i : Nat) (s : Sl) (x : Option V), ρ[i]? = some s → σ[i]? = some x → SlOk K w H0 I H x s
  dis : ∀ (i j : Nat) (a : Addr) (s t : Sl), ρ[i]? = some s → ρ[j]? = some t → s.isMut → t.isMut → σ[i]? = some (some (V.ref a)) → σ[j]? = some (some (V.ref a)) → i = j
end
section
variable {K : PySem.W.Frag} {w : World} {H0 I H I' H' : Hp} {σ : L2.St} {ρ : List Sl}
theorem SlOk.mono {x : Option V} {s : Sl} (h : SlOk K w H0 I H x s) (l : Le I H I' H') : SlOk K w H0 I' H' x s := by
  cases s with
  | any => trivial
  | dat d => obtain ⟨v, e, q⟩ := h; exact ⟨v, e, q.ex l.i⟩
  | val v => exact h
  | bor ds => obtain ⟨a, xs, e, q, r⟩ := h; exact ⟨a, xs, e, q, r.ex l.i⟩
  | lis ds => obtain ⟨a, xs, e, q, r, t, u⟩ := h; exact ⟨a, xs, e, q, l.fr a (by rw [t]; exact fun z => nomatch z) r, l.h a _ t, u.ex l.i⟩
  | set S n => obtain ⟨a, e, q, r, t⟩ := h; exact ⟨a, e, q, l.fr a (by rw [t]; exact fun z => nomatch z) r, l.h a _ t⟩
  | pool n => exact h
theorem EnvOk.mono (h : EnvOk K w H0 I H σ ρ) (l : Le I H I' H') : EnvOk K w H0 I' H' σ ρ :=
  ⟨h.base.trans l.h, l.ih, h.len, fun i s x e1 e2 => (h.ok i s x e1 e2).mono l, h.dis⟩
theorem EnvOk.slot (h : EnvOk K w H0 I H σ ρ) {i : Nat} {s : Sl} (e : ρ[i]? = some s) : ∃ x, σ[i]? = some x ∧ SlOk K w H0 I H x s := by
  have hi : i < ρ.length := (List.getElem?_eq_some_iff.mp e).1
  have hs : i < σ.length := by rw [h.len]; exact hi
  exact ⟨σ[i], List.getElem?_eq_getElem hs, h.ok i s _ e (List.getElem?_eq_getElem hs)⟩
theorem EnvOk.set (h : EnvOk K w H0 I H σ ρ) (i : Nat) {x : Option V} {s : Sl} (hs : SlOk K w H0 I H x s) (hd : s.isMut → ∀ a, x = some (V.ref a) → ∀ j t, ρ[j]? = some t → t.isMut → σ[j]? = some (some (V.ref a)) → i = j) : EnvOk K w H0 I H (σ.set i x) (ρ.set i s) := by
  refine ⟨h.base, h.ih, by rw [List.length_set, List.length_set, h.len], fun j s' x' e1 e2 => ?_, fun j k a s' t' e1 e2 m1 m2 v1 v2 => ?_⟩
  · by_cases hj : i = j
    · subst hj
      have hl : i < ρ.length := by have := (List.getElem?_eq_some_iff.mp e1).1; rwa [List.length_set] at this
      rw [List.getElem?_set_self hl] at e1
      rw [List.getElem?_set_self (by rw [h.len]; exact hl)] at e2
      cases e1; cases e2; exact hs
    · rw [List.getElem?_set_ne hj] at e1 e2
      exact h.ok j s' x' e1 e2
  · by_cases hj : i = j
    · by_cases hk : i = k
      · exact hj.symm.trans hk
      · subst hj
        have hl : i < ρ.length := by have := (List.getElem?_eq_some_iff.mp e1).1; rwa [List.length_set] at this
        rw [List.getElem?_set_self hl] at e1
        rw [List.getElem?_set_self (by rw [h.len]; exact hl)] at v1
        rw [List.getElem?_set_ne hk] at e2 v2
        cases e1
        exact hd m1 a (Option.some.inj v1) k t' e2 m2 v2
    · by_cases hk : i = k
      · subst hk
        have hl : i < ρ.length := by have := (List.getElem?_eq_some_iff.mp e2).1; rwa [List.length_set] at this
        rw [List.getElem?_set_self hl] at e2
        rw [List.getElem?_set_self (by rw [h.len]; exact hl)] at v2
        rw [List.getElem?_set_ne hj] at e1 v1
        cases e2
        exact (hd m2 a (Option.some.inj v2) j s' e1 m1 v1).symm
      · rw [List.getElem?_set_ne hj] at e1 v1
        rw [List.getElem?_set_ne hk] at e2 v2
        exact h.dis j k a s' t' e1 e2 m1 m2 v1 v2
theorem EnvOk.setD (h : EnvOk K w H0 I H σ ρ) (i : Nat) {v : V} {d : PyData} (hv : Dp K I v d) : EnvOk K w H0 I H (σ.set i (some v)) (ρ.set i (.dat d)) :=
  h.set i ⟨v, rfl, hv⟩ fun z => z.elim
/-- a slot that is a new list, not frozen -/
theorem EnvOk.setN (h : EnvOk K w H0 I H σ ρ) (l : Le I H I' H') (i : Nat) {a : Addr} {xs : List V} {ds : List PyData} (hn : H a = none) (hi : I' a = none) (ho : H' a = some (.lst xs)) (hd : DpAll K I' xs ds) : EnvOk K w H0 I' H' (σ.set i (some (.ref a))) (ρ.set i (.lis ds)) := by
  refine (h.mono l).set i ⟨a, xs, rfl, h.base.free hn, hi, ho, hd⟩ fun _ b e j t e1 m e2 => ?_
  cases e
  have q := h.ok j t _ e1 e2
  cases t with
  | lis es =>
    obtain ⟨b, ys, z, _, _, y, _⟩ := q
    cases z
    rw [hn] at y; cases y
  | set S n =>
    obtain ⟨b, z, _, _, y⟩ := q
    cases z
    rw [hn] at y; cases y
  | _ => exact m.elim
/-- the list in slot i is changed -/
theorem EnvOk.chg (h : EnvOk K w H0 I H σ ρ) {i : Nat} {ds es : List PyData} (e : ρ[i]? = some (.lis ds)) {a : Addr} {ys : List V} (ea : σ[i]? = some (some (.ref a))) (hy : DpAll K I ys es) : EnvOk K w H0 I (upd H a (.lst ys)) σ (ρ.set i (.lis es)) := by
  obtain ⟨b, xs, z, q1, q2, q3, q4⟩ := h.ok i _ _ e ea
  cases z
  have hl : i < ρ.length := (List.getElem?_eq_some_iff.mp e).1
  have ex : ∀ b o, b ≠ a → H b = some o → upd H a (.lst ys) b = some o := fun b o hb q => by rw [upd_ne hb]; exact q
  refine ⟨fun b o q => ex b o (fun z => by subst z; rw [q1] at q; cases q) (h.base b o q), fun b o q => ex b o (fun z => by subst z; rw [q2] at q; cases q) (h.ih b o q), by rw [List.length_set, h.len], fun j s x e1 e2 => ?_, fun j k c s t e1 e2 m1 m2 v1 v2 => ?_⟩
  · by_cases hj : i = j
    · subst hj
      rw [List.getElem?_set_self hl] at e1
      rw [ea] at e2
      cases e1; cases e2
      exact ⟨a, ys, rfl, q1, q2, upd_same, hy⟩
    · rw [List.getElem?_set_ne hj] at e1
      have q := h.ok j s x e1 e2
      cases s with
      | any => trivial
      | dat d => exact q
      | val v => exact q
      | bor ds => exact q
      | lis fs =>
        obtain ⟨c, zs, rfl, r1, r2, r3, r4⟩ := q
        refine ⟨c, zs, rfl, r1, r2, ex c _ (fun z => ?_) r3, r4⟩
        subst z
        exact hj (h.dis i j c _ _ e e1 trivial trivial ea e2)
      | set S n =>
        obtain ⟨c, rfl, r1, r2, r3⟩ := q
        refine ⟨c, rfl, r1, r2, ex c _ (fun z => ?_) r3⟩
        subst z
        exact hj (h.dis i j c _ _ e e1 trivial trivial ea e2)
      | pool n => exact q
  · have f1 : ∃ s', ρ[j]? = some s' ∧ s'.isMut := by
      by_cases hj : i = j
      · subst hj; exact ⟨_, e, trivial⟩
      · rw [List.getElem?_set_ne hj] at e1; exact ⟨_, e1, m1⟩
    have f2 : ∃ s', ρ[k]? = some s' ∧ s'.isMut := by
      by_cases hk : i = k
      · subst hk; exact ⟨_, e, trivial⟩
      · rw [List.getElem?_set_ne hk] at e2; exact ⟨_, e2, m2⟩
    obtain ⟨s', g1, g2⟩ := f1
    obtain ⟨t', g3, g4⟩ := f2
    exact h.dis j k c s' t' g1 g3 g2 g4 v1 v2
/-- the set in slot i is changed -/
theorem EnvOk.chgS (h : EnvOk K w H0 I H σ ρ) {i : Nat} {S S' : Int → Bool} {n n' : Nat} (e : ρ[i]? = some (.set S n)) {a : Addr} (ea : σ[i]? = some (some (.ref a))) : EnvOk K w H0 I (upd H a (SetO w a S' n')) σ (ρ.set i (.set S' n')) := by
  obtain ⟨b, z, q1, q2, q3⟩ := h.ok i _ _ e ea
  cases z
  have hl : i < ρ.length := (List.getElem?_eq_some_iff.mp e).1
  have ex : ∀ b o, b ≠ a → H b = some o → upd H a (SetO w a S' n') b = some o := fun b o hb q => by rw [upd_ne hb]; exact q
  refine ⟨fun b o q => ex b o (fun z => by subst z; rw [q1] at q; cases q) (h.base b o q), fun b o q => ex b o (fun z => by subst z; rw [q2] at q; cases q) (h.ih b o q), by rw [List.length_set, h.len], fun j s x e1 e2 => ?_, fun j k c s t e1 e2 m1 m2 v1 v2 => ?_⟩
  · by_cases hj : i = j
    · subst hj
      rw [List.getElem?_set_self hl] at e1
      rw [ea] at e2
      cases e1; cases e2
      exact ⟨a, rfl, q1, q2, upd_same⟩
    · rw [List.getElem?_set_ne hj] at e1
      have q := h.ok j s x e1 e2
      cases s with
      | any => trivial
      | dat d => exact q
      | val v => exact q
      | bor ds => exact q
      | lis fs =>
        obtain ⟨c, zs, rfl, r1, r2, r3, r4⟩ := q
        refine ⟨c, zs, rfl, r1, r2, ex c _ (fun z => ?_) r3, r4⟩
        subst z
        exact hj (h.dis i j c _ _ e e1 trivial trivial ea e2)
      | set S n =>
        obtain ⟨c, rfl, r1, r2, r3⟩ := q
        refine ⟨c, rfl, r1, r2, ex c _ (fun z => ?_) r3⟩
        subst z
        exact hj (h.dis i j c _ _ e e1 trivial trivial ea e2)
      | pool n => exact q
  · have f1 : ∃ s', ρ[j]? = some s' ∧ s'.isMut := by
      by_cases hj : i = j
      · subst hj; exact ⟨_, e, trivial⟩
      · rw [List.getElem?_set_ne hj] at e1; exact ⟨_, e1, m1⟩
    have f2 : ∃ s', ρ[k]? = some s' ∧ s'.isMut := by
      by_cases hk : i = k
      · subst hk; exact ⟨_, e, trivial⟩
      · rw [List.getElem?_set_ne hk] at e2; exact ⟨_, e2, m2⟩
    obtain ⟨s', g1, g2⟩ := f1
    obtain ⟨t', g3, g4⟩ := f2
    exact h.dis j k c s' t' g1 g3 g2 g4 v1 v2
end
end G
end
section
set_option Elab.async false
set_option linter.all false
set_option maxRecDepth 100000
set_option maxHeartbeats 1000000
/-! layer G: expressions -/
namespace G
open PySem L2

/-- what may be handed to a def -/
inductive Ar where
  | dat (d : PyData)
  | bor (ds : List PyData)
  | val (v : V)
  | pool (n : Nat)
section
variable (K : PySem.W.Frag) (w : World)
def ArOk (I H : Hp) (v : V) : Ar → Prop
  | .dat d => Dp K I v d
  | .bor ds => ∃ l xs, v = .ref l ∧ SqL K H l xs ∧ DpAll K I xs ds
  | .val u => v = u
  | .pool n => ∃ a, v = .ref a ∧ H a = some (PoolO a n)
inductive ArsOk (I H : Hp) : List V → List Ar → Prop
  | nil : ArsOk I H [] []
  | cons {v : V} {vs : List V} {a : Ar} {as : List Ar} : ArOk K I H v a → ArsOk I H vs as → ArsOk I H (v :: vs) (a :: as)

def EvR (te : TE) (ρ : List Sl) (R : PyData → Prop) : Prop := ∀ H0 I H σ, EnvOk K w H0 I H σ ρ → ∀ Q : VK, (∀ d v I' H', R d → Le I H I' H' → Dp K I' v d → Q v H') → te σ H Q
def EvD (te : TE) (ρ : List Sl) (d : PyData) : Prop := ∀ H0 I H σ, EnvOk K w H0 I H σ ρ → ∀ Q : VK, (∀ v I' H', Le I H I' H' → Dp K I' v d → Q v H') → te σ H Q
/-- a list that can be read -/
def EvL (te : TE) (ρ : List Sl) (ds : List PyData) : Prop := ∀ H0 I H σ, EnvOk K w H0 I H σ ρ → ∀ Q : VK, (∀ l xs I' H', Le I H I' H' → SqL K H' l xs → DpAll K I' xs ds → Q (.ref l) H') → te σ H Q
/-- a tracked list -/
def EvC (te : TE) (ρ : List Sl) (ds : List PyData) : Prop := ∀ H0 I H σ, EnvOk K w H0 I H σ ρ → ∀ Q : VK, (∀ l xs I' H', Le I H I' H' → H' l = some (.lst xs) → DpAll K I' xs ds → Q (.ref l) H') → te σ H Q
/-- a new list, not frozen -/
def EvNR (te : TE) (ρ : List Sl) (R : List PyData → Prop) : Prop := ∀ H0 I H σ, EnvOk K w H0 I H σ ρ → ∀ Q : VK, (∀ ds l xs I' H', R ds → Le I H I' H' → H l = none → I' l = none → H' l = some (.lst xs) → DpAll K I' xs ds → Q (.ref l) H') → te σ H Q
def EvN (te : TE) (ρ : List Sl) (ds : List PyData) : Prop := ∀ H0 I H σ, EnvOk K w H0 I H σ ρ → ∀ Q : VK, (∀ l xs I' H', Le I H I' H' → H l = none → I' l = none → H' l = some (.lst xs) → DpAll K I' xs ds → Q (.ref l) H') → te σ H Q
def EvV (te : TE) (ρ : List Sl) (v : V) : Prop := ∀ H0 I H σ, EnvOk K w H0 I H σ ρ → ∀ Q : VK, (∀ I' H', Le I H I' H' → Q v H') → te σ H Q
def EvB (tt : TT) (ρ : List Sl) (b : Bool) : Prop := ∀ H0 I H σ, EnvOk K w H0 I H σ ρ → ∀ Q : Bool → Hp → Prop, (∀ I' H', Le I H I' H' → Q b H') → tt σ H Q
def EvA (ta : TA) (ρ : List Sl) (as : List Ar) : Prop := ∀ H0 I H σ, EnvOk K w H0 I H σ ρ → ∀ Q : List V → Hp → Prop, (∀ vs I' H', Le I H I' H' → ArsOk K I' H' vs as → Q vs H') → ta σ H Q
/-- operations on data -/
def OpD (r : R2) (x y z : PyData) : Prop := ∀ I H v u, Ex I H → Dp K I v x → Dp K I u y → ∀ Q : VK, (∀ t I' H', Le I H I' H' → Dp K I' t z → Q t H') → r v u H Q
def UnD (r : V → Hp → VK → Prop) (x z : PyData) : Prop := ∀ I H v, Ex I H → Dp K I v x → ∀ Q : VK, (∀ t I' H', Le I H I' H' → Dp K I' t z → Q t H') → r v H Q
def CallD (r : List V → Hp → VK → Prop) (as : List Ar) (z : PyData) : Prop := ∀ I H vs, Ex I H → ArsOk K I H vs as → ∀ Q : VK, (∀ t I' H', Le I H I' H' → Dp K I' t z → Q t H') → r vs H Q

/-! promises -/
def spD (S : List Ar → (PyData → Prop) → Prop) : Sp := fun vs H Q _ => ∃ I as, Ex I H ∧ ArsOk K I H vs as ∧ S as fun d => ∀ v I' H', Le I H I' H' → Dp K I' v d → Q v H'
def spN (S : List Ar → (List PyData → Prop) → Prop) : Sp := fun vs H Q _ => ∃ I as, Ex I H ∧ ArsOk K I H vs as ∧ S as fun ds => ∀ l xs I' H', Le I H I' H' → H l = none → I' l = none → H' l = some (.lst xs) → DpAll K I' xs ds → Q (.ref l) H'
end

section
variable {K : PySem.W.Frag} {w : World} {ρ : List Sl} {ta tb te tx : TE} {x y z d : PyData} {ds es : List PyData} {r : R2} {tt tu : TT}
theorem ArOk.mono {I H I' H' : Hp} (l : Le I H I' H') {v : V} {a : Ar} (h : ArOk K I H v a) : ArOk K I' H' v a := by
  cases a with
  | dat d => exact h.ex l.i
  | bor ds => obtain ⟨a, xs, e, q, r⟩ := h; exact ⟨a, xs, e, l.h.l q, r.ex l.i⟩
  | val u => exact h
  | pool n => obtain ⟨a, e, q⟩ := h; exact ⟨a, e, l.h a _ q⟩
theorem ArsOk.mono {I H I' H' : Hp} (l : Le I H I' H') : ∀ {vs : List V} {as : List Ar}, ArsOk K I H vs as → ArsOk K I' H' vs as
  | _, _, .nil => .nil
  | _, _, .cons h t => .cons (h.mono l) (ArsOk.mono l t)
theorem ArsOk.len {I H : Hp} : ∀ {vs : List V} {as : List Ar}, ArsOk K I H vs as → vs.length = as.length
  | _, _, .nil => rfl
  | _, _, .cons _ t => by rw [List.length_cons, List.length_cons, t.len]

def isNon : PyData → Bool
  | .none => true
  | _ => false
/-! between the judgements -/
theorem EvD.toR {R : PyData → Prop} (h : EvD K w te ρ d) (hr : R d) : EvR K w te ρ R := fun H0 I H σ e Q q => h H0 I H σ e Q fun v I' H' l hv => q d v I' H' hr l hv
theorem EvR.imp {R R' : PyData → Prop} (h : EvR K w te ρ R) (hr : ∀ d, R d → R' d) : EvR K w te ρ R' := fun H0 I H σ e Q q => h H0 I H σ e Q fun d v I' H' hd l hv => q d v I' H' (hr d hd) l hv
theorem EvR.toD (h : EvR K w te ρ (· = d)) : EvD K w te ρ d := fun H0 I H σ e Q q => h H0 I H σ e Q fun d' v I' H' hd l hv => q v I' H' l (hd ▸ hv)
theorem EvD.is {d' : PyData} (h : EvD K w te ρ d) (e : d = d') : EvD K w te ρ d' := e ▸ h
theorem EvB.is {b b' : Bool} (h : EvB K w tt ρ b) (e : b = b') : EvB K w tt ρ b' := e ▸ h
theorem EvN.is {d' : List PyData} (h : EvN K w te ρ ds) (e : ds = d') : EvN K w te ρ d' := e ▸ h
theorem EvN.toR {R : List PyData → Prop} (h : EvN K w te ρ ds) (hr : R ds) : EvNR K w te ρ R := fun H0 I H σ e Q q => h H0 I H σ e Q fun a xs I' H' l h1 h2 h3 h4 => q ds a xs I' H' hr l h1 h2 h3 h4
theorem EvNR.f {R : List PyData → Prop} {R' : PyData → Prop} (h : EvNR K w te ρ R) (hr : ∀ ds, R ds → R' (.list ds)) : EvR K w te ρ R' := fun H0 I H σ e Q q => h H0 I H σ e Q fun ds a xs I' H' hR l h1 h2 h3 h4 =>
  q (.list ds) (.ref a) _ H' (hr ds hR) (l.freeze h1 h2 h3) (.lst (sq_of upd_same) (h4.ex (.new h2)))
theorem EvN.f (h : EvN K w te ρ ds) : EvD K w te ρ (.list ds) := fun H0 I H σ e Q q => h H0 I H σ e Q fun a xs I' H' l h1 h2 h3 h4 =>
  q (.ref a) _ H' (l.freeze h1 h2 h3) (.lst (sq_of upd_same) (h4.ex (.new h2)))
theorem EvN.c (h : EvN K w te ρ ds) : EvC K w te ρ ds := fun H0 I H σ e Q q => h H0 I H σ e Q fun a xs I' H' l h1 h2 h3 h4 => q a xs I' H' l h3 h4
theorem EvC.l (h : EvC K w te ρ ds) : EvL K w te ρ ds := fun H0 I H σ e Q q => h H0 I H σ e Q fun a xs I' H' l h3 h4 => q a xs I' H' l (sq_of h3) h4
theorem EvN.l (h : EvN K w te ρ ds) : EvL K w te ρ ds := h.c.l
theorem EvD.l (h : EvD K w te ρ (.list ds)) : EvL K w te ρ ds := fun H0 I H σ e Q q => h H0 I H σ e Q fun v I' H' l hv => by
  obtain ⟨a, xs, rfl, h1, h2⟩ := dp_lst hv
  exact q a xs I' H' l (l.ih.l h1) h2

/-! names, constants -/
theorem ev_var {i : Nat} (h : ρ[i]? = some (.dat d)) : EvD K w (tVar i) ρ d := fun H0 I H σ e Q q => by
  obtain ⟨x, hx, v, rfl, hv⟩ := e.slot h
  exact ⟨v, hx, q v I H (.refl e.ih) hv⟩
theorem el_bor {i : Nat} (h : ρ[i]? = some (.bor ds)) : EvL K w (tVar i) ρ ds := fun H0 I H σ e Q q => by
  obtain ⟨x, hx, l, xs, rfl, h1, h2⟩ := e.slot h
  exact ⟨.ref l, hx, q l xs I H (.refl e.ih) (e.base.l h1) h2⟩
theorem ec_var {i : Nat} (h : ρ[i]? = some (.lis ds)) : EvC K w (tVar i) ρ ds := fun H0 I H σ e Q q => by
  obtain ⟨x, hx, l, xs, rfl, h1, h2, h3, h4⟩ := e.slot h
  exact ⟨.ref l, hx, q l xs I H (.refl e.ih) h3 h4⟩
theorem evv_var {i : Nat} {v : V} (h : ρ[i]? = some (.val v)) : EvV K w (tVar i) ρ v := fun H0 I H σ e Q q => by
  obtain ⟨x, hx, rfl⟩ := e.slot h
  exact ⟨v, hx, q I H (.refl e.ih)⟩
theorem ev_int {i : Int} : EvD K w (tC (.int i)) ρ (.int i) := fun H0 I H σ e Q q => q _ I H (.refl e.ih) (.int i)
theorem ev_bl {i : Bool} : EvD K w (tC (.bl i)) ρ (.bool i) := fun H0 I H σ e Q q => q _ I H (.refl e.ih) (.bl i)
theorem ev_str {i : Str} : EvD K w (tC (.str i)) ρ (.str i) := fun H0 I H σ e Q q => q _ I H (.refl e.ih) (.str i)
theorem ev_non : EvD K w (tC .non) ρ .none := fun H0 I H σ e Q q => q _ I H (.refl e.ih) .non
/-- a written constant -/
theorem ev_cst {v : V} (h : ∀ I, Dp K I v d) : EvD K w (tC v) ρ d := fun H0 I H σ e Q q => q _ I H (.refl e.ih) (h I)
theorem evv_c {v : V} : EvV K w (tC v) ρ v := fun H0 I H σ e Q q => q I H (.refl e.ih)

/-! operators -/
theorem ev_op (ha : EvD K w ta ρ x) (hb : EvD K w tb ρ y) (hr : OpD K r x y z) : EvD K w (tOp r ta tb) ρ z := fun H0 I H σ e Q q =>
  ha H0 I H σ e _ fun v I1 H1 l1 hv => hb H0 I1 H1 σ (e.mono l1) _ fun u I2 H2 l2 hu => hr I2 H2 v u l2.ih (hv.ex l2.i) hu Q fun t I3 H3 l3 ht => q t I3 H3 ((l1.trans l2).trans l3) ht
theorem evr_op {A B R : PyData → Prop} (ha : EvR K w ta ρ A) (hb : EvR K w tb ρ B) (hr : ∀ x y, A x → B y → ∃ z, R z ∧ OpD K r x y z) : EvR K w (tOp r ta tb) ρ R := fun H0 I H σ e Q q =>
  ha H0 I H σ e _ fun x v I1 H1 hx l1 hv => hb H0 I1 H1 σ (e.mono l1) _ fun y u I2 H2 hy l2 hu => by
    obtain ⟨z, hz, ho⟩ := hr x y hx hy
    exact ho I2 H2 v u l2.ih (hv.ex l2.i) hu Q fun t I3 H3 l3 ht => q z t I3 H3 hz ((l1.trans l2).trans l3) ht
theorem ev_un {r : V → Hp → VK → Prop} (ha : EvD K w ta ρ x) (hr : UnD K r x z) : EvD K w (tUn r ta) ρ z := fun H0 I H σ e Q q =>
  ha H0 I H σ e _ fun v I1 H1 l1 hv => hr I1 H1 v l1.ih hv Q fun t I3 H3 l3 ht => q t I3 H3 (l1.trans l3) ht
theorem od_I0 {g : Int → Int → V} {i j : Int} (h : ∀ I, Dp K I (g i j) z) : OpD K (rI0 g) (.int i) (.int j) z := fun I H v u e hv hu Q q => by
  cases dp_int hv; cases dp_int hu
  exact ⟨i, j, rfl, rfl, q _ I H (.refl e) (h I)⟩
theorem od_I {C : Int → Int → Prop} {g : Int → Int → V} {i j : Int} (hc : C i j) (h : ∀ I, Dp K I (g i j) z) : OpD K (rI C g) (.int i) (.int j) z := fun I H v u e hv hu Q q => by
  cases dp_int hv; cases dp_int hu
  exact ⟨i, j, rfl, rfl, hc, q _ I H (.refl e) (h I)⟩
theorem ev_add {i j : Int} (ha : EvD K w ta ρ (.int i)) (hb : EvD K w tb ρ (.int j)) : EvD K w (tOp (rI0 fun i j => .int (i + j)) ta tb) ρ (.int (i + j)) := ev_op ha hb (od_I0 fun _ => .int _)
theorem ev_sub {i j : Int} (ha : EvD K w ta ρ (.int i)) (hb : EvD K w tb ρ (.int j)) : EvD K w (tOp (rI0 fun i j => .int (i - j)) ta tb) ρ (.int (i - j)) := ev_op ha hb (od_I0 fun _ => .int _)
theorem ev_mulW {i j : Int} (ha : EvD K w ta ρ (.int i)) (hb : EvD K w tb ρ (.int j)) (hc : CMulW i j) : EvD K w (tOp (rI CMulW fun i j => .int (i * j)) ta tb) ρ (.int (i * j)) := ev_op ha hb (od_I hc fun _ => .int _)
theorem ev_fdivW {i j : Int} (ha : EvD K w ta ρ (.int i)) (hb : EvD K w tb ρ (.int j)) (hc : CDivW i j) : EvD K w (tOp (rI CDivW fun i j => .int (i / j)) ta tb) ρ (.int (i / j)) := ev_op ha hb (od_I hc fun _ => .int _)
theorem ev_I {C : Int → Int → Prop} {g : Int → Int → Int} {i j : Int} (ha : EvD K w ta ρ (.int i)) (hb : EvD K w tb ρ (.int j)) (hc : C i j) : EvD K w (tOp (rI C fun i j => .int (g i j)) ta tb) ρ (.int (g i j)) := ev_op ha hb (od_I hc fun _ => .int _)
theorem ev_cmp {p : Int → Int → Bool} {i j : Int} (ha : EvD K w ta ρ (.int i)) (hb : EvD K w tb ρ (.int j)) : EvD K w (tOp (rI0 fun i j => .bl (p i j)) ta tb) ρ (.bool (p i j)) := ev_op ha hb (od_I0 fun _ => .bl _)
theorem ev_neg {i : Int} (ha : EvD K w ta ρ (.int i)) : EvD K w (tUn (rU fun i => .int (-i)) ta) ρ (.int (-i)) := ev_un ha fun I H v e hv Q q => by
  cases dp_int hv
  exact ⟨i, rfl, q _ I H (.refl e) (.int _)⟩
/-- plain data: its value is the same in all heaps -/
inductive Flat : V → PyData → Prop
  | non : Flat .non .none
  | bl (b : Bool) : Flat (.bl b) (.bool b)
  | int (i : Int) : Flat (.int i) (.int i)
  | str (x : Str) : Flat (.str x) (.str x)
theorem Flat.val {v u : V} {I : Hp} (f : Flat v d) (h : Dp K I u d) : u = v := by
  cases f <;> cases h <;> rfl
theorem Flat.flat {v : V} (f : Flat v d) : flatV v = true := by cases f <;> rfl
theorem Flat.dp {v : V} {I : Hp} (f : Flat v d) : Dp K I v d := by
  cases f
  · exact .non
  · exact .bl _
  · exact .int _
  · exact .str _
theorem ev_eqS {v u : V} (ha : EvD K w ta ρ x) (hb : EvD K w tb ρ y) (fx : Flat v x) (fy : Flat u y) (hs : scal v u = true) : EvD K w (tOp rEq ta tb) ρ (.bool (decide (v = u))) := ev_op ha hb fun I H v' u' e hv hu Q q => by
  rw [fx.val hv, fy.val hu]
  exact ⟨hs, q _ I H (.refl e) (.bl _)⟩
theorem ev_neS {v u : V} (ha : EvD K w ta ρ x) (hb : EvD K w tb ρ y) (fx : Flat v x) (fy : Flat u y) (hs : scal v u = true) : EvD K w (tOp rNe ta tb) ρ (.bool (!decide (v = u))) := ev_op ha hb fun I H v' u' e hv hu Q q => by
  rw [fx.val hv, fy.val hu]
  exact ⟨hs, q _ I H (.refl e) (.bl _)⟩
theorem dec_strV {i j : Str} : decide (V.str i = V.str j) = decide (i = j) := by
  by_cases h : i = j
  · subst h; simp
  · rw [decide_eq_false h, decide_eq_false fun z => h (V.str.inj z)]
theorem dec_intV {i j : Int} : decide (V.int i = V.int j) = decide (i = j) := by
  by_cases h : i = j
  · subst h; simp
  · rw [decide_eq_false h, decide_eq_false fun z => h (V.int.inj z)]
theorem ev_eqStr {i j : Str} (ha : EvD K w ta ρ (.str i)) (hb : EvD K w tb ρ (.str j)) : EvD K w (tOp rEq ta tb) ρ (.bool (decide (i = j))) := (ev_eqS ha hb (.str i) (.str j) rfl).is (by rw [dec_strV])
theorem ev_neStr {i j : Str} (ha : EvD K w ta ρ (.str i)) (hb : EvD K w tb ρ (.str j)) : EvD K w (tOp rNe ta tb) ρ (.bool (!decide (i = j))) := (ev_neS ha hb (.str i) (.str j) rfl).is (by rw [dec_strV])
theorem ev_eqInt {i j : Int} (ha : EvD K w ta ρ (.int i)) (hb : EvD K w tb ρ (.int j)) : EvD K w (tOp rEq ta tb) ρ (.bool (decide (i = j))) := (ev_eqS ha hb (.int i) (.int j) rfl).is (by rw [dec_intV])
theorem ev_neInt {i j : Int} (ha : EvD K w ta ρ (.int i)) (hb : EvD K w tb ρ (.int j)) : EvD K w (tOp rNe ta tb) ρ (.bool (!decide (i = j))) := (ev_neS ha hb (.int i) (.int j) rfl).is (by rw [dec_intV])
theorem ev_eqD (ha : EvD K w ta ρ x) (hb : EvD K w tb ρ y) (hx : SeqAt.shaped x = true) (hy : SeqAt.shaped y = true) : EvD K w (tOp (rEqD K) ta tb) ρ (.bool (PyData.eqv x y)) := ev_op ha hb fun I H v u e hv hu Q q =>
  ⟨x, y, hv.ex e, hu.ex e, hx, hy, q _ I H (.refl e) (.bl _)⟩
theorem ev_neD (ha : EvD K w ta ρ x) (hb : EvD K w tb ρ y) (hx : SeqAt.shaped x = true) (hy : SeqAt.shaped y = true) : EvD K w (tOp (rNeD K) ta tb) ρ (.bool (!PyData.eqv x y)) := ev_op ha hb fun I H v u e hv hu Q q =>
  ⟨x, y, hv.ex e, hu.ex e, hx, hy, q _ I H (.refl e) (.bl _)⟩
/-- of a list that may be read, not frozen -/
theorem ev_neL (ha : EvL K w ta ρ ds) (hb : EvL K w tb ρ es) (hx : SeqAt.shaped (.list ds) = true) (hy : SeqAt.shaped (.list es) = true) : EvD K w (tOp (rNeD K) ta tb) ρ (.bool (!PyData.eqv (.list ds) (.list es))) := fun H0 I H σ e Q q =>
  ha H0 I H σ e _ fun a xs I1 H1 l1 ha1 ha2 => hb H0 I1 H1 σ (e.mono l1) _ fun b ys I2 H2 l2 hb1 hb2 =>
    ⟨_, _, .lst (l2.h.l ha1) (ha2.ex (l2.i.trans l2.ih)), .lst hb1 (hb2.ex l2.ih), hx, hy, q _ I2 H2 (l1.trans l2) (.bl _)⟩
theorem ev_isN (ha : EvD K w ta ρ x) : EvD K w (tOp (fun x y H Q => y = V.non ∧ Q (.bl (decide (x = .non))) H) ta (tC .non)) ρ (.bool (isNon x)) := fun H0 I H σ e Q q =>
  ha H0 I H σ e _ fun v I1 H1 l1 hv => ⟨rfl, q _ I1 H1 l1 (by
    cases hv <;> exact .bl _)⟩
theorem ev_notN (ha : EvD K w ta ρ x) : EvD K w (tOp (fun x y H Q => y = V.non ∧ Q (.bl (!decide (x = .non))) H) ta (tC .non)) ρ (.bool (!isNon x)) := fun H0 I H σ e Q q =>
  ha H0 I H σ e _ fun v I1 H1 l1 hv => ⟨rfl, q _ I1 H1 l1 (by
    cases hv <;> exact .bl _)⟩

/-! subscripts -/
theorem ev_ixL {i : Int} {k : Nat} (ha : EvL K w ta ρ ds) (hb : EvD K w tb ρ (.int i)) (hk : ixN ds.length i = some k) (hd : ds[k]? = some d) : EvD K w (tOp (rIxL K) ta tb) ρ d := fun H0 I H σ e Q q =>
  ha H0 I H σ e _ fun a xs I1 H1 l1 h1 h2 => hb H0 I1 H1 σ (e.mono l1) _ fun u I2 H2 l2 hu => by
    cases dp_int hu
    obtain ⟨v, hv, hp⟩ := dpa_get h2 hd
    refine ⟨a, xs, i, v, rfl, rfl, l2.h.l h1, ?_, q v I2 H2 (l1.trans l2) (hp.ex l2.i)⟩
    unfold atI
    rw [dpa_len h2, hk]
    exact hv
theorem ev_ixT {i : Int} {k : Nat} (ha : EvD K w ta ρ (.tuple ds)) (hb : EvD K w tb ρ (.int i)) (hk : ixN ds.length i = some k) (hd : ds[k]? = some d) : EvD K w (tOp (rIxT K) ta tb) ρ d := ev_op ha hb fun I H v u e hv hu Q q => by
  cases dp_int hu
  obtain ⟨a, xs, rfl, h1, h2⟩ := dp_tup hv
  obtain ⟨t, ht, hp⟩ := dpa_get h2 hd
  refine ⟨a, xs, i, t, rfl, rfl, e.t h1, ?_, q t I H (.refl e) hp⟩
  unfold atI
  rw [dpa_len h2, hk]
  exact ht
theorem ixN_nat {n k : Nat} (h : k < n) : ixN n (k : Int) = some k := by
  unfold ixN
  rw [if_pos (by omega), if_pos (by omega)]
  rfl
/-- by a natural index -/
theorem ev_ixLn {k : Nat} (ha : EvL K w ta ρ ds) (hb : EvD K w tb ρ (.int (k : Int))) (hd : ds[k]? = some d) : EvD K w (tOp (rIxL K) ta tb) ρ d :=
  ev_ixL ha hb (ixN_nat (List.getElem?_eq_some_iff.mp hd).1) hd
theorem ev_ixTn {k : Nat} (ha : EvD K w ta ρ (.tuple ds)) (hb : EvD K w tb ρ (.int (k : Int))) (hd : ds[k]? = some d) : EvD K w (tOp (rIxT K) ta tb) ρ d :=
  ev_ixT ha hb (ixN_nat (List.getElem?_eq_some_iff.mp hd).1) hd

/-! in -/
theorem inV_ints {i : Int} {ns : List Int} : inV (.int i) (ns.map V.int) = decide (i ∈ ns) := by
  unfold inV
  rw [List.any_map, Bool.eq_iff_iff, List.any_eq_true, decide_eq_true_iff]
  constructor
  · rintro ⟨y, hy, e⟩
    have e1 : (y == i) = true := e
    rw [beq_iff_eq] at e1
    exact e1 ▸ hy
  · intro h
    exact ⟨i, h, beq_self_eq_true i⟩
theorem flat_ints (ns : List Int) : (ns.map V.int).all flatV = true := by
  rw [List.all_map]
  exact List.all_eq_true.mpr fun x _ => rfl
theorem ev_inI {i : Int} {ns : List Int} (ha : EvD K w ta ρ (.int i)) (hb : EvL K w tb ρ (ns.map .int)) : EvD K w (tOp (rIn K false) ta tb) ρ (.bool (decide (i ∈ ns))) := fun H0 I H σ e Q q =>
  ha H0 I H σ e _ fun v I1 H1 l1 hv => hb H0 I1 H1 σ (e.mono l1) _ fun a xs I2 H2 l2 h1 h2 => by
    cases dp_int hv
    cases dpa_ints h2
    refine ⟨a, _, rfl, .inl h1, rfl, flat_ints ns, q _ I2 H2 (l1.trans l2) ?_⟩
    rw [if_neg (by decide), inV_ints]
    exact .bl _
theorem ev_niI {i : Int} {ns : List Int} (ha : EvD K w ta ρ (.int i)) (hb : EvL K w tb ρ (ns.map .int)) : EvD K w (tOp (rIn K true) ta tb) ρ (.bool (!decide (i ∈ ns))) := fun H0 I H σ e Q q =>
  ha H0 I H σ e _ fun v I1 H1 l1 hv => hb H0 I1 H1 σ (e.mono l1) _ fun a xs I2 H2 l2 h1 h2 => by
    cases dp_int hv
    cases dpa_ints h2
    refine ⟨a, _, rfl, .inl h1, rfl, flat_ints ns, q _ I2 H2 (l1.trans l2) ?_⟩
    rw [if_pos rfl, inV_ints]
    exact .bl _
theorem inV_strs {i : Str} {ns : List Str} : inV (.str i) (ns.map V.str) = decide (i ∈ ns) := by
  unfold inV
  rw [List.any_map, Bool.eq_iff_iff, List.any_eq_true, decide_eq_true_iff]
  constructor
  · rintro ⟨y, hy, e⟩
    have e1 : (y == i) = true := e
    rw [beq_iff_eq] at e1
    exact e1 ▸ hy
  · intro h
    exact ⟨i, h, beq_self_eq_true i⟩
theorem flat_strs (ns : List Str) : (ns.map V.str).all flatV = true := by
  rw [List.all_map]
  exact List.all_eq_true.mpr fun x _ => rfl
theorem dpa_strs {I : Hp} : ∀ {vs : List V} {ns : List Str}, DpAll K I vs (ns.map PyData.str) → vs = ns.map V.str
  | _, [], h => by cases h; rfl
  | _, n :: ns, h => by
    cases h with
    | cons h1 h2 => rw [dp_str h1, dpa_strs h2]; rfl
theorem ev_inS {i : Str} {ns : List Str} (ha : EvD K w ta ρ (.str i)) (hb : EvL K w tb ρ (ns.map .str)) : EvD K w (tOp (rIn K false) ta tb) ρ (.bool (decide (i ∈ ns))) := fun H0 I H σ e Q q =>
  ha H0 I H σ e _ fun v I1 H1 l1 hv => hb H0 I1 H1 σ (e.mono l1) _ fun a xs I2 H2 l2 h1 h2 => by
    cases dp_str hv
    cases dpa_strs h2
    refine ⟨a, _, rfl, .inl h1, rfl, flat_strs ns, q _ I2 H2 (l1.trans l2) ?_⟩
    rw [if_neg (by decide), inV_strs]
    exact .bl _
theorem ev_niSet {i : Nat} {k : Int} {S : Int → Bool} {n : Nat} (ha : EvD K w ta ρ (.int k)) (hb : ρ[i]? = some (.set S n)) : EvD K w (tOp (rSNotIn w) ta (tVar i)) ρ (.bool (!S k)) := fun H0 I H σ e Q q =>
  ha H0 I H σ e _ fun v I1 H1 l1 hv => by
    cases dp_int hv
    obtain ⟨x, hx, a, rfl, h1, h2, h3⟩ := (e.mono l1).slot hb
    exact ⟨.ref a, hx, k, a, S, n, rfl, rfl, h3, q _ I1 H1 l1 (.bl _)⟩

/-! tests -/
theorem eb_test {b : Bool} (h : EvD K w te ρ (.bool b)) : EvB K w (tTest te) ρ b := fun H0 I H σ e Q q => h H0 I H σ e _ fun v I1 H1 l1 hv => by
  cases dp_bl hv
  exact ⟨b, rfl, q I1 H1 l1⟩
theorem eb_B {b : Bool} (h : EvD K w te ρ (.bool b)) : EvB K w (tB te) ρ b := fun H0 I H σ e Q q => h H0 I H σ e _ fun v I1 H1 l1 hv => by
  cases dp_bl hv
  exact ⟨b, rfl, q I1 H1 l1⟩
theorem eb_and {a b : Bool} (h1 : EvB K w tt ρ a) (h2 : a = true → EvB K w tu ρ b) : EvB K w (tAnd tt tu) ρ (a && b) := fun H0 I H σ e Q q => h1 H0 I H σ e _ fun I1 H1 l1 => by
  cases a with
  | true => exact h2 rfl H0 I1 H1 σ (e.mono l1) Q fun I2 H2 l2 => q I2 H2 (l1.trans l2)
  | false => exact q I1 H1 l1
theorem eb_or {a b : Bool} (h1 : EvB K w tt ρ a) (h2 : a = false → EvB K w tu ρ b) : EvB K w (tOr tt tu) ρ (a || b) := fun H0 I H σ e Q q => h1 H0 I H σ e _ fun I1 H1 l1 => by
  cases a with
  | false => exact h2 rfl H0 I1 H1 σ (e.mono l1) Q fun I2 H2 l2 => q I2 H2 (l1.trans l2)
  | true => exact q I1 H1 l1
theorem eb_not {a : Bool} (h1 : EvB K w tt ρ a) : EvB K w (tNot tt) ρ (!a) := fun H0 I H σ e Q q => h1 H0 I H σ e _ fun I1 H1 l1 => q I1 H1 l1
theorem eb_yes : EvB K w tYes ρ true := fun H0 I H σ e Q q => q I H (.refl e.ih)
/-- if xs: -/
theorem eb_list (h : EvL K w te ρ ds) : EvB K w (fun σ H Q => te σ H fun x H1 => ∃ k, TruV K x H1 k ∧ Q k H1) ρ (!ds.isEmpty) := fun H0 I H σ e Q q => h H0 I H σ e _ fun a xs I1 H1 l1 h1 h2 => by
  refine ⟨!ds.isEmpty, .inl ⟨xs, h1, ?_⟩, q I1 H1 l1⟩
  cases h2 <;> rfl
theorem ev_andV {a b : Bool} (h1 : EvD K w ta ρ (.bool a)) (h2 : a = true → EvD K w tb ρ (.bool b)) : EvD K w (tAndV ta tb) ρ (.bool (a && b)) := fun H0 I H σ e Q q => h1 H0 I H σ e _ fun v I1 H1 l1 hv => by
  cases dp_bl hv
  refine ⟨a, rfl, ?_⟩
  cases a with
  | true => exact h2 rfl H0 I1 H1 σ (e.mono l1) Q fun v I2 H2 l2 => q v I2 H2 (l1.trans l2)
  | false => exact q _ I1 H1 l1 (.bl _)
theorem ev_orV {a b : Bool} (h1 : EvD K w ta ρ (.bool a)) (h2 : a = false → EvD K w tb ρ (.bool b)) : EvD K w (tOrV ta tb) ρ (.bool (a || b)) := fun H0 I H σ e Q q => h1 H0 I H σ e _ fun v I1 H1 l1 hv => by
  cases dp_bl hv
  refine ⟨a, rfl, ?_⟩
  cases a with
  | false => exact h2 rfl H0 I1 H1 σ (e.mono l1) Q fun v I2 H2 l2 => q v I2 H2 (l1.trans l2)
  | true => exact q _ I1 H1 l1 (.bl _)
theorem ev_notV {a : Bool} (h1 : EvD K w ta ρ (.bool a)) : EvD K w (tNotV ta) ρ (.bool (!a)) := fun H0 I H σ e Q q => h1 H0 I H σ e _ fun v I1 H1 l1 hv => by
  cases dp_bl hv
  exact ⟨a, rfl, q _ I1 H1 l1 (.bl _)⟩
theorem ev_if {b : Bool} (h : EvB K w tt ρ b) (h1 : b = true → EvD K w ta ρ d) (h2 : b = false → EvD K w tb ρ d) : EvD K w (tIf tt ta tb) ρ d := fun H0 I H σ e Q q => h H0 I H σ e _ fun I1 H1 l1 => by
  cases b with
  | true => exact h1 rfl H0 I1 H1 σ (e.mono l1) Q fun v I2 H2 l2 => q v I2 H2 (l1.trans l2)
  | false => exact h2 rfl H0 I1 H1 σ (e.mono l1) Q fun v I2 H2 l2 => q v I2 H2 (l1.trans l2)
/-- both ways have a value -/
theorem ev_ite {b : Bool} (h : EvB K w tt ρ b) (h1 : EvD K w ta ρ x) (h2 : EvD K w tb ρ y) : EvD K w (tIf tt ta tb) ρ (if b then x else y) := ev_if h (fun e => by subst e; exact h1) (fun e => by subst e; exact h2)

/-! arguments, displays, calls -/
theorem ea_nil : EvA K w tNil ρ [] := fun H0 I H σ e Q q => q [] I H (.refl e.ih) .nil
theorem ea_dat {tr : TA} {as : List Ar} (h : EvD K w ta ρ d) (hr : EvA K w tr ρ as) : EvA K w (tCons ta tr) ρ (.dat d :: as) := fun H0 I H σ e Q q =>
  h H0 I H σ e _ fun v I1 H1 l1 hv => hr H0 I1 H1 σ (e.mono l1) _ fun vs I2 H2 l2 hvs => q (v :: vs) I2 H2 (l1.trans l2) (.cons (hv.ex l2.i) hvs)
theorem ea_bor {tr : TA} {as : List Ar} (h : EvL K w ta ρ ds) (hr : EvA K w tr ρ as) : EvA K w (tCons ta tr) ρ (.bor ds :: as) := fun H0 I H σ e Q q =>
  h H0 I H σ e _ fun a xs I1 H1 l1 h1 h2 => hr H0 I1 H1 σ (e.mono l1) _ fun vs I2 H2 l2 hvs => q (.ref a :: vs) I2 H2 (l1.trans l2) (.cons ⟨a, xs, rfl, l2.h.l h1, h2.ex l2.i⟩ hvs)
theorem ea_val {tr : TA} {as : List Ar} {v : V} (h : EvV K w ta ρ v) (hr : EvA K w tr ρ as) : EvA K w (tCons ta tr) ρ (.val v :: as) := fun H0 I H σ e Q q =>
  h H0 I H σ e _ fun I1 H1 l1 => hr H0 I1 H1 σ (e.mono l1) _ fun vs I2 H2 l2 hvs => q (v :: vs) I2 H2 (l1.trans l2) (.cons rfl hvs)
theorem ea_pool {tr : TA} {as : List Ar} {i n : Nat} (h : ρ[i]? = some (.pool n)) (hr : EvA K w tr ρ as) : EvA K w (tCons (tVar i) tr) ρ (.pool n :: as) := fun H0 I H σ e Q q => by
  obtain ⟨x, hx, a, rfl, h1⟩ := e.slot h
  exact ⟨.ref a, hx, hr H0 I H σ e _ fun vs I2 H2 l2 hvs => q (.ref a :: vs) I2 H2 l2 (.cons ⟨a, rfl, (e.base.trans l2.h) a _ h1⟩ hvs)⟩
theorem ars_dats {I H : Hp} : ∀ {vs : List V} {ds : List PyData}, ArsOk K I H vs (ds.map .dat) → DpAll K I vs ds
  | _, [], .nil => .nil
  | _, d :: ds, .cons h t => .cons h (ars_dats t)
theorem ev_tup {ta : TA} {ds : List PyData} (h : EvA K w ta ρ (ds.map .dat)) (hl : ds.length ≤ 100000) : EvD K w (tTup ta) ρ (.tuple ds) := fun H0 I H σ e Q q =>
  h H0 I H σ e _ fun vs I1 H1 l1 hvs => by
    have hd := ars_dats hvs
    refine ⟨sz_of (by rw [dpa_len hd]; exact hl), fun p hp => q _ _ _ (l1.trans (.new l1.ih hp)) (.tup (st_of upd_same) (hd.ex (.new (l1.ih.free hp))))⟩
theorem en_lst {ta : TA} {ds : List PyData} (h : EvA K w ta ρ (ds.map .dat)) (hl : ds.length ≤ 100000) : EvN K w (tLst ta) ρ ds := fun H0 I H σ e Q q =>
  h H0 I H σ e _ fun vs I1 H1 l1 hvs => by
    have hd := ars_dats hvs
    refine ⟨sz_of (by rw [dpa_len hd]; exact hl), fun p hp => q p vs I1 _ (l1.trans (.raw l1.ih hp)) (l1.h.free hp) (l1.ih.free hp) upd_same hd⟩
theorem evr_call {t : TA} {as : List Ar} {S : List Ar → (PyData → Prop) → Prop} {E : XK} {R : PyData → Prop} (h : EvA K w t ρ as) (hs : ∀ R' : PyData → Prop, (∀ d, R d → R' d) → S as R') : EvR K w (tCall (spD K S) [] E t) ρ R := fun H0 I H σ e Q q =>
  h H0 I H σ e _ fun vs I1 H1 l1 hvs => ⟨I1, as, l1.ih, by rw [List.append_nil]; exact hvs, hs _ fun d hd v I' H' l hv => q d v I' H' hd (l1.trans l) hv⟩
theorem ev_call {t : TA} {as : List Ar} {S : List Ar → (PyData → Prop) → Prop} {E : XK} (h : EvA K w t ρ as) (hs : ∀ R : PyData → Prop, R d → S as R) : EvD K w (tCall (spD K S) [] E t) ρ d :=
  EvR.toD (evr_call h fun R' hR => hs R' (hR d rfl))
theorem enr_call {t : TA} {as : List Ar} {S : List Ar → (List PyData → Prop) → Prop} {E : XK} {R : List PyData → Prop} (h : EvA K w t ρ as) (hs : ∀ R' : List PyData → Prop, (∀ d, R d → R' d) → S as R') : EvNR K w (tCall (spN K S) [] E t) ρ R := fun H0 I H σ e Q q =>
  h H0 I H σ e _ fun vs I1 H1 l1 hvs => ⟨I1, as, l1.ih, by rw [List.append_nil]; exact hvs, hs _ fun ds hd l xs I' H' le h1 h2 h3 h4 => q ds l xs I' H' hd (l1.trans le) (l1.h.free h1) h2 h3 h4⟩
theorem en_call {t : TA} {as : List Ar} {S : List Ar → (List PyData → Prop) → Prop} {E : XK} (h : EvA K w t ρ as) (hs : ∀ R : List PyData → Prop, R ds → S as R) : EvN K w (tCall (spN K S) [] E t) ρ ds := fun H0 I H σ e Q q =>
  enr_call h (R := (· = ds)) (fun R' hR => hs R' (hR ds rfl)) H0 I H σ e Q fun ds' l xs I' H' hd le h1 h2 h3 h4 => q l xs I' H' le h1 h2 h3 (hd ▸ h4)
/-- a def held by a slot -/
theorem ev_callL {t : TA} {as : List Ar} {S : List Ar → (PyData → Prop) → Prop} {E : XK} {i : Nat} {f : Addr} (hi : ρ[i]? = some (.val (.ref f))) (h : EvA K w t ρ as) (hs : ∀ R : PyData → Prop, R d → S as R) : EvD K w (tCallL i f (spD K S) [] E t) ρ d := fun H0 I H σ e Q q => by
  obtain ⟨x, hx, rfl⟩ := e.slot hi
  exact ⟨hx, ev_call (E := E) h hs H0 I H σ e Q q⟩
theorem ev_cb {t : TA} {as : List Ar} {r : List V → Hp → VK → Prop} (h : EvA K w t ρ as) (hs : CallD K r as d) : EvD K w (tCB r t) ρ d := fun H0 I H σ e Q q =>
  h H0 I H σ e _ fun vs I1 H1 l1 hvs => hs I1 H1 vs l1.ih hvs Q fun t I2 H2 l2 ht => q t I2 H2 (l1.trans l2) ht
end
end G
end
section
set_option Elab.async false
set_option linter.all false
set_option maxRecDepth 100000
set_option maxHeartbeats 1000000
/-! layer G: built-ins, slices, walks, comprehensions -/
namespace G
open PySem L2
section
variable {K : PySem.W.Frag} {w : World} {ρ : List Sl} {ta tb te tx tl : TE} {x y z d : PyData} {ds es : List PyData} {tt tu : TT}
theorem ars0 {I H : Hp} {vs : List V} (h : ArsOk K I H vs []) : vs = [] := by
  cases h; rfl
theorem arsC {I H : Hp} {vs : List V} {a : Ar} {as : List Ar} (h : ArsOk K I H vs (a :: as)) : ∃ v us, vs = v :: us ∧ ArOk K I H v a ∧ ArsOk K I H us as := by
  cases h with
  | cons h1 h2 => exact ⟨_, _, rfl, h1, h2⟩
theorem ars1 {I H : Hp} {a : Ar} {vs : List V} (h : ArsOk K I H vs [a]) : ∃ v, vs = [v] ∧ ArOk K I H v a := by
  obtain ⟨v, us, rfl, h1, h2⟩ := arsC h
  cases ars0 h2
  exact ⟨v, rfl, h1⟩
theorem ars2 {I H : Hp} {a b : Ar} {vs : List V} (h : ArsOk K I H vs [a, b]) : ∃ v u, vs = [v, u] ∧ ArOk K I H v a ∧ ArOk K I H u b := by
  obtain ⟨v, us, rfl, h1, h2⟩ := arsC h
  obtain ⟨u, rfl, h3⟩ := ars1 h2
  exact ⟨v, u, rfl, h1, h3⟩
theorem ars3 {I H : Hp} {a b c : Ar} {vs : List V} (h : ArsOk K I H vs [a, b, c]) : ∃ v u t, vs = [v, u, t] ∧ ArOk K I H v a ∧ ArOk K I H u b ∧ ArOk K I H t c := by
  obtain ⟨v, us, rfl, h1, h2⟩ := arsC h
  obtain ⟨u, t, rfl, h3⟩ := ars2 h2
  exact ⟨v, u, t, rfl, h1, h3⟩
theorem ars4 {I H : Hp} {a b c e : Ar} {vs : List V} (h : ArsOk K I H vs [a, b, c, e]) : ∃ v u t s, vs = [v, u, t, s] ∧ ArOk K I H v a ∧ ArOk K I H u b ∧ ArOk K I H t c ∧ ArOk K I H s e := by
  obtain ⟨v, us, rfl, h1, h2⟩ := arsC h
  obtain ⟨u, t, s, rfl, h3⟩ := ars3 h2
  exact ⟨v, u, t, s, rfl, h1, h3⟩
theorem cd_gcd {a b : Int} : CallD K rGcd [.dat (.int a), .dat (.int b)] (.int ((Nat.gcd a.natAbs b.natAbs : Nat) : Int)) := fun I H vs e h Q q => by
  obtain ⟨v, u, rfl, h1, h2⟩ := ars2 h
  cases dp_int h1; cases dp_int h2
  exact ⟨a, b, rfl, q _ I H (.refl e) (.int _)⟩
theorem ev_int1 {i : Int} (ha : EvD K w ta ρ (.int i)) : EvD K w (tCB (fun xs H Q => (∃ i, xs = [V.int i] ∧ Q (.int i) H) ∨ ∃ k, xs = [V.bl k] ∧ Q (.int (if k then 1 else 0)) H) (tCons ta tNil)) ρ (.int i) :=
  ev_cb (ea_dat ha ea_nil) fun I H vs e h Q q => by
    obtain ⟨v, rfl, h1⟩ := ars1 h
    cases dp_int h1
    exact .inl ⟨i, rfl, q _ I H (.refl e) (.int _)⟩
theorem evr_int1 {R : PyData → Prop} (ha : EvR K w ta ρ fun d => ∃ i, d = .int i ∧ R (.int i)) : EvR K w (tCB (fun xs H Q => (∃ i, xs = [V.int i] ∧ Q (.int i) H) ∨ ∃ k, xs = [V.bl k] ∧ Q (.int (if k then 1 else 0)) H) (tCons ta tNil)) ρ R := fun H0 I H σ e Q q =>
  ha H0 I H σ e _ fun d v I1 H1 hd l1 hv => by
    obtain ⟨i, rfl, hR⟩ := hd
    cases dp_int hv
    exact .inl ⟨i, rfl, q _ _ I1 H1 hR l1 (.int _)⟩
theorem ev_intB {b : Bool} (ha : EvD K w ta ρ (.bool b)) : EvD K w (tCB (fun xs H Q => (∃ i, xs = [V.int i] ∧ Q (.int i) H) ∨ ∃ k, xs = [V.bl k] ∧ Q (.int (if k then 1 else 0)) H) (tCons ta tNil)) ρ (.int (if b then 1 else 0)) :=
  ev_cb (ea_dat ha ea_nil) fun I H vs e h Q q => by
    obtain ⟨v, rfl, h1⟩ := ars1 h
    cases dp_bl h1
    exact .inr ⟨b, rfl, q _ I H (.refl e) (.int _)⟩
theorem ev_abs {i : Int} (ha : EvD K w ta ρ (.int i)) : EvD K w (tCB (fun xs H Q => ∃ i, xs = [V.int i] ∧ Q (.int (if i < 0 then -i else i)) H) (tCons ta tNil)) ρ (.int (i.natAbs : Int)) :=
  ev_cb (ea_dat ha ea_nil) fun I H vs e h Q q => by
    obtain ⟨v, rfl, h1⟩ := ars1 h
    cases dp_int h1
    refine ⟨i, rfl, q _ I H (.refl e) ?_⟩
    have e1 : (if i < 0 then -i else i) = (i.natAbs : Int) := by split <;> omega
    rw [e1]; exact .int _
theorem ev_min2 {i j : Int} (ha : EvD K w ta ρ (.int i)) (hb : EvD K w tb ρ (.int j)) : EvD K w (tCB (fun xs H Q => ∃ i j, xs = [V.int i, V.int j] ∧ Q (.int (if j < i then j else i)) H) (tCons ta (tCons tb tNil))) ρ (.int (if j < i then j else i)) :=
  ev_cb (ea_dat ha (ea_dat hb ea_nil)) fun I H vs e h Q q => by
    obtain ⟨v, u, rfl, h1, h2⟩ := ars2 h
    cases dp_int h1; cases dp_int h2
    exact ⟨i, j, rfl, q _ I H (.refl e) (.int _)⟩
theorem ev_len (ha : EvL K w ta ρ ds) : EvD K w (tCB (fun xs H Q => ∃ p ys, xs = [V.ref p] ∧ (SqL K H p ys ∨ SqT K H p ys) ∧ Q (.int ys.length) H) (tCons ta tNil)) ρ (.int (ds.length : Int)) :=
  ev_cb (ea_bor ha ea_nil) fun I H vs e h Q q => by
    obtain ⟨v, rfl, a, xs, rfl, h1, h2⟩ := ars1 h
    refine ⟨a, xs, rfl, .inl h1, q _ I H (.refl e) ?_⟩
    rw [dpa_len h2]; exact .int _
theorem ev_lenT (ha : EvD K w ta ρ (.tuple ds)) : EvD K w (tCB (fun xs H Q => ∃ p ys, xs = [V.ref p] ∧ (SqL K H p ys ∨ SqT K H p ys) ∧ Q (.int ys.length) H) (tCons ta tNil)) ρ (.int (ds.length : Int)) :=
  ev_cb (ea_dat ha ea_nil) fun I H vs e h Q q => by
    obtain ⟨v, rfl, h0⟩ := ars1 h
    obtain ⟨a, xs, rfl, h1, h2⟩ := dp_tup h0
    refine ⟨a, xs, rfl, .inr (e.t h1), q _ I H (.refl e) ?_⟩
    rw [dpa_len h2]; exact .int _
theorem ev_sum {ns : List Int} (ha : EvL K w ta ρ (ns.map .int)) : EvD K w (tCB (rSum K) (tCons ta tNil)) ρ (.int ns.sum) :=
  ev_cb (ea_bor ha ea_nil) fun I H vs e h Q q => by
    obtain ⟨v, rfl, a, xs, rfl, h1, h2⟩ := ars1 h
    cases dpa_ints h2
    exact ⟨a, ns, rfl, h1, q _ I H (.refl e) (.int _)⟩
theorem ev_any {bs : List Bool} (ha : EvL K w ta ρ (bs.map .bool)) : EvD K w (tCB (rAny K) (tCons ta tNil)) ρ (.bool (bs.any id)) :=
  ev_cb (ea_bor ha ea_nil) fun I H vs e h Q q => by
    obtain ⟨v, rfl, a, xs, rfl, h1, h2⟩ := ars1 h
    cases dpa_bools h2
    exact ⟨a, bs, rfl, h1, q _ I H (.refl e) (.bl _)⟩
theorem ev_all {bs : List Bool} (ha : EvL K w ta ρ (bs.map .bool)) : EvD K w (tCB (rAll K) (tCons ta tNil)) ρ (.bool (bs.all id)) :=
  ev_cb (ea_bor ha ea_nil) fun I H vs e h Q q => by
    obtain ⟨v, rfl, a, xs, rfl, h1, h2⟩ := ars1 h
    cases dpa_bools h2
    exact ⟨a, bs, rfl, h1, q _ I H (.refl e) (.bl _)⟩
theorem en_list (ha : EvL K w ta ρ ds) : EvN K w (tCB (fun xs H Q => ∃ p ys, xs = [V.ref p] ∧ (SqL K H p ys ∨ SqT K H p ys) ∧ ∀ l, H l = none → Q (.ref l) (upd H l (.lst ys))) (tCons ta tNil)) ρ ds := fun H0 I H σ e Q q =>
  ha H0 I H σ e _ fun a xs I1 H1 l1 h1 h2 => ⟨a, xs, rfl, .inl h1, fun l hl => q l xs I1 _ (l1.trans (.raw l1.ih hl)) (l1.h.free hl) (l1.ih.free hl) upd_same h2⟩
theorem en_cat (ha : EvC K w ta ρ ds) (hb : EvC K w tb ρ es) (hz : ds.length + es.length ≤ 100000) : EvN K w (tOp rCat ta tb) ρ (ds ++ es) := fun H0 I H σ e Q q =>
  ha H0 I H σ e _ fun a xs I1 H1 l1 h1 h2 => hb H0 I1 H1 σ (e.mono l1) _ fun b ys I2 H2 l2 h3 h4 =>
    ⟨a, b, xs, ys, rfl, rfl, l2.h a _ h1, h3, sz_of (by rw [dpa_len h2, dpa_len h4]; exact hz), fun p hp => q p _ I2 _ ((l1.trans l2).trans (.raw l2.ih hp)) ((l1.trans l2).h.free hp) (l2.ih.free hp) upd_same (dpa_app (h2.ex l2.i) h4)⟩
def EvO (to : TO) (ρ : List Sl) (o : Option Int) : Prop := ∀ H0 I H σ, EnvOk K w H0 I H σ ρ → ∀ Q : Option Int → Hp → Prop, (∀ I' H', Le I H I' H' → Q o H') → to σ H Q
theorem eo_none : EvO (K := K) (w := w) tNoPart ρ none := fun H0 I H σ e Q q => q I H (.refl e.ih)
theorem eo_some {i : Int} (h : EvD K w te ρ (.int i)) : EvO (K := K) (w := w) (tPart te) ρ (some i) := fun H0 I H σ e Q q => h H0 I H σ e _ fun v I1 H1 l1 hv => by
  cases dp_int hv
  exact ⟨i, rfl, q I1 H1 l1⟩
/-- the items of ds[lo:hi] -/
def cutD (ds : List PyData) (lo hi : Option Int) : List PyData := (ds.drop (HT.sIx ds.length 0 lo)).take (HT.sIx ds.length ds.length hi - HT.sIx ds.length 0 lo)
theorem en_slice {tlo thi : TO} {lo hi : Option Int} (ha : EvL K w ta ρ ds) (h1 : EvO (K := K) (w := w) tlo ρ lo) (h2 : EvO (K := K) (w := w) thi ρ hi) : EvN K w (tSl (rSlL K) ta tlo thi) ρ (cutD ds lo hi) := fun H0 I H σ e Q q =>
  ha H0 I H σ e _ fun a xs I1 H1 l1 h3 h4 => h1 H0 I1 H1 σ (e.mono l1) _ fun I2 H2 l2 => h2 H0 I2 H2 σ ((e.mono l1).mono l2) _ fun I3 H3 l3 =>
    ⟨a, xs, rfl, (l2.trans l3).h.l h3, fun p hp => q p _ I3 _ ((l1.trans (l2.trans l3)).trans (.raw l3.ih hp)) ((l1.trans (l2.trans l3)).h.free hp) (l3.ih.free hp) upd_same (by
      have h5 : DpAll K I3 xs ds := h4.ex (l2.trans l3).i
      unfold cutV cutD
      rw [dpa_len h5]
      exact dpa_take _ (dpa_drop _ h5))⟩
theorem en_rev (ha : EvL K w ta ρ ds) : EvN K w (tRevL K ta) ρ ds.reverse := fun H0 I H σ e Q q =>
  ha H0 I H σ e _ fun a xs I1 H1 l1 h1 h2 => ⟨a, xs, rfl, h1, fun l hl => q l _ I1 _ (l1.trans (.raw l1.ih hl)) (l1.h.free hl) (l1.ih.free hl) upd_same (dpa_rev h2)⟩
theorem en_listRg {n : Nat} (ha : EvD K w ta ρ (.int (n : Int))) (hn : n ≤ 10000) : EvN K w (tLstRg (tRg1 ta)) ρ ((List.range n).map fun i => .int ((i : Nat) : Int)) := fun H0 I H σ e Q q =>
  ha H0 I H σ e _ fun v I1 H1 l1 hv => by
    cases dp_int hv
    refine ⟨n, rfl, RgOk.of_le (by omega) (by omega) (by omega) (by omega), fun l hl => q l _ I1 _ (l1.trans (.raw l1.ih hl)) (l1.h.free hl) (l1.ih.free hl) upd_same ?_⟩
    have e1 : rgV 0 (n : Int) = ((List.range n).map fun i => ((i : Nat) : Int)).map V.int := by
      unfold rgV
      rw [List.map_map]
      have e2 : ((n : Int) - 0).toNat = n := by omega
      rw [e2]
      refine List.map_congr_left fun i _ => ?_
      show V.int (0 + (i : Int)) = V.int (i : Int)
      rw [Int.zero_add]
    rw [e1]
    have e3 : ((List.range n).map fun i => PyData.int ((i : Nat) : Int)) = ((List.range n).map fun i => ((i : Nat) : Int)).map PyData.int := by rw [List.map_map]; rfl
    rw [e3]
    exact dpa_of_ints _
/-- xs.index(i): the first place -/
theorem ev_index {ns : List Int} {i : Int} {j : Nat} (ha : EvL K w ta ρ (ns.map .int)) (hb : EvD K w tb ρ (.int i)) (hj : ns[j]? = some i) (hf : ∀ m, m < j → ns[m]? ≠ some i) : EvD K w (tBM K "list" (rIndex K) ta (tCons tb tNil)) ρ (.int (j : Int)) := fun H0 I H σ e Q q =>
  ha H0 I H σ e _ fun a xs I1 H1 l1 h1 h2 => ⟨.inl ⟨rfl, xs, h1⟩, hb H0 I1 H1 σ (e.mono l1) _ fun v I2 H2 l2 hv => by
    cases dp_int hv
    cases dpa_ints h2
    refine ⟨a, ns.map V.int, .int i, j, .int i, rfl, rfl, l2.h.l h1, rfl, flat_ints ns, by rw [List.getElem?_map, hj]; rfl, by show (i == i) = true; exact beq_self_eq_true i, ?_, q _ I2 H2 (l1.trans l2) (.int _)⟩
    intro m z' hm hz
    rw [List.getElem?_map] at hz
    cases hg : ns[m]? with
    | none => rw [hg] at hz; cases hz
    | some k =>
      rw [hg] at hz
      cases hz
      show (k == i) = false
      rw [beq_eq_false_iff_ne]
      exact fun z => hf m hm (by rw [hg, z])⟩
theorem ev_indexB {ns : List Bool} {i : Bool} {j : Nat} (ha : EvL K w ta ρ (ns.map .bool)) (hb : EvD K w tb ρ (.bool i)) (hj : ns[j]? = some i) (hf : ∀ m, m < j → ns[m]? ≠ some i) : EvD K w (tBM K "list" (rIndex K) ta (tCons tb tNil)) ρ (.int (j : Int)) := fun H0 I H σ e Q q =>
  ha H0 I H σ e _ fun a xs I1 H1 l1 h1 h2 => ⟨.inl ⟨rfl, xs, h1⟩, hb H0 I1 H1 σ (e.mono l1) _ fun v I2 H2 l2 hv => by
    cases dp_bl hv
    cases dpa_bools h2
    refine ⟨a, ns.map V.bl, .bl i, j, .bl i, rfl, rfl, l2.h.l h1, rfl, ?_, by rw [List.getElem?_map, hj]; rfl, by show (i == i) = true; exact beq_self_eq_true i, ?_, q _ I2 H2 (l1.trans l2) (.int _)⟩
    · rw [List.all_map]
      exact List.all_eq_true.mpr fun x _ => rfl
    intro m z' hm hz
    rw [List.getElem?_map] at hz
    cases hg : ns[m]? with
    | none => rw [hg] at hz; cases hz
    | some k =>
      rw [hg] at hz
      cases hz
      show (k == i) = false
      rw [beq_eq_false_iff_ne]
      exact fun z => hf m hm (by rw [hg, z])⟩
theorem en_sorted {i : Nat} {S : Int → Bool} {n : Nat} (hb : ρ[i]? = some (.set S n)) (hn : n < 64) : EvNR K w (tCB (rSortedSet w) (tCons (tVar i) tNil)) ρ fun ds => ∃ ns : List Int, ds = ns.map .int ∧ (∀ k : Int, k ∈ ns ↔ S k = true) ∧ ns.length = n := fun H0 I H σ e Q q => by
  obtain ⟨x, hx, a, rfl, h1, h2, h3⟩ := e.slot hb
  exact ⟨.ref a, hx, a, S, n, rfl, h3, hn, fun ns p _ hm hl hp => q _ p _ I _ ⟨ns, rfl, hm, hl⟩ (.raw e.ih hp) hp (e.ih.free hp) upd_same (dpa_of_ints ns)⟩

/-! ### what is walked -/
structure ItOk (J : It) (I0 : Hp) (items : List PyData) : Prop where
  go : ∀ (i : Nat) (I H : Hp), Ex I0 I → Ex I H → i < items.length → J.go i H
  yld : ∀ (i : Nat) (I H : Hp) (x : V) (H' : Hp), Ex I0 I → Ex I H → i < items.length → J.yld i H x H' → ∃ I' d, items[i]? = some d ∧ Le I H I' H' ∧ Dp K I' x d
  stop : ∀ (I H : Hp), Ex I0 I → Ex I H → J.stop items.length H
def EvI (wi : TI) (ρ : List Sl) (items : List PyData) : Prop := ∀ H0 I H σ, EnvOk K w H0 I H σ ρ → ∀ R : It → Hp → Prop, (∀ J I' H', Le I H I' H' → ItOk (K := K) J I' items → R J H') → wi σ H R
theorem EvI.is {is js : List PyData} {wi : TI} (h : EvI (K := K) (w := w) wi ρ is) (e : is = js) : EvI (K := K) (w := w) wi ρ js := e ▸ h
theorem ei_list (h : EvD K w tl ρ (.list ds)) : EvI (K := K) (w := w) (iList K tl) ρ ds := fun H0 I H σ e R q =>
  h H0 I H σ e _ fun v I1 H1 l1 hv => by
    obtain ⟨a, xs, rfl, h1, h2⟩ := dp_lst hv
    refine ⟨a, rfl, ⟨xs, l1.ih.l h1⟩, q _ I1 H1 l1 ⟨fun i I H e1 e2 hi => ?_, fun i I H x H' e1 e2 hi hy => ?_, fun I H e1 e2 => ⟨xs, e2.l (e1.l h1), by rw [dpa_len h2]; exact Nat.le_refl _⟩⟩⟩
    · have hi' : i < xs.length := by rw [dpa_len h2]; exact hi
      exact ⟨xs, xs[i], e2.l (e1.l h1), List.getElem?_eq_getElem hi'⟩
    · obtain ⟨rfl, hx⟩ := hy
      have g := hx xs (e2.l (e1.l h1))
      obtain ⟨d, hd, hp⟩ := dpa_getV h2 g
      exact ⟨I, d, hd, .refl e2, hp.ex e1⟩
theorem ei_range {ta : TE} {n : Nat} (h : EvD K w ta ρ (.int (n : Int))) (hn : n ≤ 100000) : EvI (K := K) (w := w) (iRng1 (tCons ta tNil)) ρ ((List.range n).map fun (i : Nat) => .int (i : Int)) := fun H0 I H σ e R q =>
  h H0 I H σ e _ fun v I1 H1 l1 hv => by
    cases dp_int hv
    have hl : ((List.range n).map fun (i : Nat) => PyData.int (i : Int)).length = n := by rw [List.length_map, List.length_range]
    have en : ((n : Int)).toNat = n := by omega
    refine ⟨n, rfl, by omega, by omega, q _ I1 H1 l1 ⟨fun i I H e1 e2 hi => ?_, fun i I H x H' e1 e2 hi hy => ?_, fun I H e1 e2 => ?_⟩⟩
    · show i < ((n : Int)).toNat
      omega
    · obtain ⟨rfl, rfl⟩ := hy
      rw [hl] at hi
      refine ⟨I, .int (i : Int), ?_, .refl e2, ?_⟩
      · rw [List.getElem?_map, List.getElem?_range hi]; rfl
      · rw [Int.zero_add]; exact .int _
    · show ((n : Int)).toNat ≤ _
      rw [hl, en]
      exact Nat.le_refl _
theorem ei_enum (h : EvD K w tl ρ (.list ds)) : EvI (K := K) (w := w) (iEnum K (tCons tl tNil)) ρ ((List.range ds.length).map fun (i : Nat) => .tuple [.int (i : Int), ds.getD i .none]) := fun H0 I H σ e R q =>
  h H0 I H σ e _ fun v I1 H1 l1 hv => by
    obtain ⟨a, xs, rfl, h1, h2⟩ := dp_lst hv
    have hl : ((List.range ds.length).map fun (i : Nat) => PyData.tuple [.int (i : Int), ds.getD i .none]).length = ds.length := by rw [List.length_map, List.length_range]
    refine ⟨a, xs, rfl, l1.ih.l h1, q _ I1 H1 l1 ⟨fun i I H e1 e2 hi => ?_, fun i I H x H' e1 e2 hi hy => ?_, fun I H e1 e2 => ⟨xs, e2.l (e1.l h1), by rw [hl, dpa_len h2]; exact Nat.le_refl _⟩⟩⟩
    · rw [hl] at hi
      have hi' : i < xs.length := by rw [dpa_len h2]; exact hi
      exact ⟨xs, xs[i], e2.l (e1.l h1), List.getElem?_eq_getElem hi'⟩
    · rw [hl] at hi
      obtain ⟨T, x', rfl, hT, rfl, hx⟩ := hy
      have g := hx xs (e2.l (e1.l h1))
      obtain ⟨d, hd, hp⟩ := dpa_getV h2 g
      refine ⟨upd I T (.tup [.int (i : Nat), x']), .tuple [.int (i : Int), d], ?_, .new e2 hT, .tup (st_of upd_same) (.cons (.int _) (.cons (hp.ex (e1.trans (.new (e2.free hT)))) .nil))⟩
      rw [List.getElem?_map, List.getElem?_range hi]
      show some (PyData.tuple [.int (i : Int), ds.getD i .none]) = _
      rw [List.getD_eq_getElem?_getD, hd]
      rfl
theorem ei_zip {tm : TE} (h : EvD K w tl ρ (.list ds)) (h' : EvD K w tm ρ (.list es)) (hl : ds.length = es.length) : EvI (K := K) (w := w) (iZip K (tCons tl (tCons tm tNil))) ρ ((List.range ds.length).map fun (i : Nat) => .tuple [ds.getD i .none, es.getD i .none]) := fun H0 I H σ e R q =>
  h H0 I H σ e _ fun v I1 H1 l1 hv => h' H0 I1 H1 σ (e.mono l1) _ fun u I2 H2 l2 hu => by
    obtain ⟨a, xs, rfl, h1, h2⟩ := dp_lst (hv.ex l2.i)
    obtain ⟨b, ys, rfl, h3, h4⟩ := dp_lst hu
    have hL : ((List.range ds.length).map fun (i : Nat) => PyData.tuple [ds.getD i .none, es.getD i .none]).length = ds.length := by rw [List.length_map, List.length_range]
    refine ⟨a, b, xs, ys, rfl, l2.ih.l h1, l2.ih.l h3, q _ I2 H2 (l1.trans l2) ⟨fun i I H e1 e2 hi => ?_, fun i I H x H' e1 e2 hi hy => ?_, fun I H e1 e2 => ⟨xs, ys, e2.l (e1.l h1), e2.l (e1.l h3), .inl (by rw [hL, dpa_len h2]; exact Nat.le_refl _)⟩⟩⟩
    · rw [hL] at hi
      have hi' : i < xs.length := by rw [dpa_len h2]; exact hi
      have hi2 : i < ys.length := by rw [dpa_len h4, ← hl]; exact hi
      exact ⟨xs, ys, xs[i], ys[i], e2.l (e1.l h1), e2.l (e1.l h3), List.getElem?_eq_getElem hi', List.getElem?_eq_getElem hi2⟩
    · rw [hL] at hi
      obtain ⟨T, x', y', rfl, hT, rfl, hx, hy⟩ := hy
      have g := hx xs (e2.l (e1.l h1))
      have g2 := hy ys (e2.l (e1.l h3))
      obtain ⟨d, hd, hp⟩ := dpa_getV h2 g
      obtain ⟨d', hd', hp'⟩ := dpa_getV h4 g2
      refine ⟨upd I T (.tup [x', y']), .tuple [d, d'], ?_, .new e2 hT, .tup (st_of upd_same) (.cons (hp.ex (e1.trans (.new (e2.free hT)))) (.cons (hp'.ex (e1.trans (.new (e2.free hT)))) .nil))⟩
      rw [List.getElem?_map, List.getElem?_range hi]
      show some (PyData.tuple [ds.getD i .none, es.getD i .none]) = _
      rw [List.getD_eq_getElem?_getD, hd, List.getD_eq_getElem?_getD, hd']
      rfl

/-! ### comprehensions -/
def wipeS (ρ : List Sl) : List Nat → List Sl
  | [] => ρ
  | v :: vs => (wipeS ρ vs).set v .any
theorem EnvOk.wipe {H0 I H : Hp} {σ : L2.St} (e : EnvOk K w H0 I H σ ρ) : ∀ vs : List Nat, EnvOk K w H0 I H (L2.wipe σ vs) (wipeS ρ vs)
  | [] => e
  | v :: vs => (e.wipe vs).set v trivial fun z => z.elim
theorem set_none_set {σ : L2.St} (i : Nat) (x : Option V) : ((σ.set i none).set i x).set i none = σ.set i none := by
  rw [List.set_set, List.set_set]
/-- what a target makes of an item: at a name, at a pair of names -/
inductive TgOk (K : PySem.W.Frag) : TG → List Nat → PyData → (List Sl → List Sl) → Prop
  | name (j : Nat) (d : PyData) : TgOk K (gName j) [j] d fun ρ => ρ.set j (.dat d)
  | pair (i j : Nat) (a b : PyData) : TgOk K (gTup K 2 (gCons (gName i) (gCons (gName j) gNil))) [i, j] (.tuple [a, b]) fun ρ => (ρ.set i (.dat a)).set j (.dat b)
theorem TgOk.go {g : TG} {vs : List Nat} {d : PyData} {f : List Sl → List Sl} (t : TgOk K g vs d f) {H0 I H : Hp} {σ : L2.St} (e : EnvOk K w H0 I H σ ρ) {x : V} (hx : Dp K I x d) {Q : L2.St → Hp → Prop}
    (q : ∀ σ', L2.wipe σ' vs = L2.wipe σ vs → EnvOk K w H0 I H σ' (f ρ) → Q σ' H) : g x σ H Q := by
  cases t with
  | name j =>
    refine q (σ.set j (some x)) ?_ (e.setD j hx)
    show (σ.set j (some x)).set j none = σ.set j none
    rw [List.set_set]
  | pair i j a b =>
    obtain ⟨p, xs, rfl, h1, h2⟩ := dp_tup hx
    cases h2 with
    | cons k1 k2 =>
      cases k2 with
      | cons k2 k3 =>
        cases k3
        refine ⟨p, _, rfl, e.ih.t h1, rfl, _, _, rfl, _, _, rfl, rfl, q _ ?_ ((e.setD i k1).setD j k2)⟩
        show (((σ.set i (some _)).set j (some _)).set j none).set i none = (σ.set j none).set i none
        rw [List.set_set]
        by_cases hij : i = j
        · subst hij
          rw [List.set_set, List.set_set, List.set_set]
        · rw [List.set_comm _ _ hij, List.set_set]
theorem wipe_set {σ : L2.St} {k : Nat} : ∀ (vs : List Nat), L2.wipe (σ.set k none) vs = (L2.wipe σ vs).set k none
  | [] => rfl
  | v :: vs => by
    show (L2.wipe (σ.set k none) vs).set v none = ((L2.wipe σ vs).set v none).set k none
    rw [wipe_set vs]
    by_cases h : k = v
    · subst h; rfl
    · rw [List.set_comm _ _ h]
theorem wipe_idem {σ : L2.St} : ∀ (vs : List Nat), L2.wipe (L2.wipe σ vs) vs = L2.wipe σ vs
  | [] => rfl
  | v :: vs => by
    show (L2.wipe ((L2.wipe σ vs).set v none) vs).set v none = (L2.wipe σ vs).set v none
    rw [wipe_set, wipe_idem vs, List.set_set]
/-- the list at D holds what the taken items have made -/
structure Cw (H0 I1 H1 : Hp) (σ : L2.St) (Dl : Addr) (R : List PyData → Prop) (H : Hp) : Prop where
  ex : ∃ I xs ds, R ds ∧ Le I1 H1 I H ∧ H1 Dl = none ∧ I Dl = none ∧ H Dl = some (.lst xs) ∧ DpAll K I xs ds
theorem lc_any {J : It} {items : List PyData} {g : TG} {te : TE} {tt : TT} {vs : List Nat} {σ : L2.St} {H0 I1 H1 : Hp} {Dl : Addr} {Qd : Hp → Prop} {Rs : Nat → List PyData → Prop} (e : EnvOk K w H0 I1 H1 σ ρ) (it : ItOk (K := K) J I1 items) (hz : items.length ≤ 50000) (hD : H1 Dl = none)
    (h0 : Rs 0 []) (hlen : ∀ i ds, Rs i ds → ds.length ≤ i)
    (turn : ∀ (i : Nat) (d : PyData), items[i]? = some d → ∃ f, TgOk K g vs d f ∧ ∃ b : Bool, EvB K w tt (f (wipeS ρ vs)) b ∧ if b = true then EvR K w te (f (wipeS ρ vs)) (fun y => ∀ ds, Rs i ds → Rs (i + 1) (ds ++ [y])) else ∀ ds, Rs i ds → Rs (i + 1) ds)
    (fin : ∀ ds xs I H, Rs items.length ds → Le I1 H1 I H → I Dl = none → H Dl = some (.lst xs) → DpAll K I xs ds → Qd H) :
    ∃ W : Nat → Nat → Hp → Prop, (∃ m, W 0 m (upd H1 Dl (.lst []))) ∧ ∀ i m H, W i m H →
      (J.stop i H ∧ Qd H) ∨ (J.go i H ∧ ∃ Nx : Hp → Prop, (∀ H', Nx H' → ∃ m', m' < m ∧ W (i + 1) m' H') ∧ ∀ x H', J.yld i H x H' → g x (L2.wipe σ vs) H' fun σ2 H2 => L2.wipe σ2 vs = L2.wipe σ vs ∧ tt σ2 H2 fun b H3 =>
        if b = true then te σ2 H3 fun y H4 => ∃ acc, H4 Dl = some (.lst acc) ∧ acc.length < sizeLine ∧ Nx (upd H4 Dl (.lst (acc ++ [y]))) else Nx H3) := by
  refine ⟨fun i m H => m = items.length - i ∧ i ≤ items.length ∧ Cw (K := K) H0 I1 H1 σ Dl (Rs i) H, ⟨_, rfl, Nat.zero_le _, ⟨I1, [], [], h0, .raw e.ih hD, hD, e.ih.free hD, upd_same, .nil⟩⟩, ?_⟩
  rintro i m H ⟨rfl, hi, ⟨I, xs, ds, hR, l, hn, hin, ho, hd⟩⟩
  by_cases hlt : i < items.length
  · refine .inr ⟨it.go i I H l.i l.ih hlt, Cw (K := K) H0 I1 H1 σ Dl (Rs (i + 1)), fun H' c => ⟨items.length - (i + 1), by omega, rfl, hlt, c⟩, fun x H' hy => ?_⟩
    obtain ⟨I2, d, hid, l2, hx⟩ := it.yld i I H x H' l.i l.ih hlt hy
    obtain ⟨f, tg, b, hb, he⟩ := turn i d hid
    have e2 : EnvOk K w H0 I2 H' (L2.wipe σ vs) (wipeS ρ vs) := ((e.mono l).mono l2).wipe vs
    refine tg.go e2 hx fun σ2 hw e3 => ⟨hw.trans (wipe_idem vs), hb H0 I2 H' σ2 e3 _ fun I3 H3 l3 => ?_⟩
    have hal : ∀ {I' H'' : Hp}, Le I H I' H'' → I' Dl = none ∧ H'' Dl = some (.lst xs) := fun l' => ⟨l'.fr Dl (by rw [ho]; exact fun z => nomatch z) hin, l'.h Dl _ ho⟩
    cases b with
    | true =>
      rw [if_pos rfl] at he ⊢
      refine he H0 I3 H3 σ2 (e3.mono l3) _ fun y v I4 H4 hy4 l4 hv => ?_
      have lt := (l2.trans l3).trans l4
      obtain ⟨a1, a2⟩ := hal lt
      have hL : xs.length ≤ i := by rw [dpa_len hd]; exact hlen i ds hR
      have hall := l.trans lt
      refine ⟨xs, a2, sz_lt (by omega), ⟨I4, xs ++ [v], ds ++ [y], hy4 ds hR, ⟨hall.i, fun b o q => ?_, fun b o q => ?_, hall.fr⟩, hn, a1, upd_same, dpa_app (hd.ex lt.i) (dpa_one hv)⟩⟩
      · rw [upd_ne (ne_of_none q hn)]; exact hall.h b o q
      · rw [upd_ne (ne_of_none q a1)]; exact hall.ih b o q
    | false =>
      rw [if_neg (by decide)] at he ⊢
      have lt := l2.trans l3
      obtain ⟨a1, a2⟩ := hal lt
      exact ⟨I3, xs, ds, he ds hR, l.trans lt, hn, a1, a2, hd.ex lt.i⟩
  · have e0 : i = items.length := by omega
    subst e0
    exact .inl ⟨it.stop I H l.i l.ih, fin ds xs I H hR l hin ho hd⟩
/-- any comprehension: what it may make -/
theorem enr_lc {wi : TI} {g : TG} {te : TE} {tt : TT} {vs : List Nat} {items : List PyData} (Rs : Nat → List PyData → Prop) (hi : EvI (K := K) (w := w) wi ρ items) (hz : items.length ≤ 50000) (h0 : Rs 0 []) (hlen : ∀ i ds, Rs i ds → ds.length ≤ i)
    (turn : ∀ (i : Nat) (d : PyData), items[i]? = some d → ∃ f, TgOk K g vs d f ∧ ∃ b : Bool, EvB K w tt (f (wipeS ρ vs)) b ∧ if b = true then EvR K w te (f (wipeS ρ vs)) (fun y => ∀ ds, Rs i ds → Rs (i + 1) (ds ++ [y])) else ∀ ds, Rs i ds → Rs (i + 1) ds) :
    EvNR K w (tLc wi g tt te vs) ρ (Rs items.length) := fun H0 I H σ e Q q =>
  hi H0 I H σ e _ fun J I1 H1 l1 it Dl hD => lc_any (e.mono l1) it hz hD h0 hlen turn fun ds xs I2 H2 hR l hin ho hd => q ds Dl xs I2 H2 hR (l1.trans l) (l1.h.free hD) hin ho hd
theorem EvNR.toN (h : EvNR K w te ρ (· = ds)) : EvN K w te ρ ds := fun H0 I H σ e Q q => h H0 I H σ e Q fun ds' l xs I' H' hd le h1 h2 h3 h4 => q l xs I' H' le h1 h2 h3 (hd ▸ h4)
theorem EvNR.imp {R R' : List PyData → Prop} (h : EvNR K w te ρ R) (hr : ∀ d, R d → R' d) : EvNR K w te ρ R' := fun H0 I H σ e Q q => h H0 I H σ e Q fun d l xs I' H' hd => q d l xs I' H' (hr d hd)
/-- of typed items: a filter and a map -/
theorem en_lc {α : Type} {wi : TI} {g : TG} {te : TE} {tt : TT} {vs : List Nat} {enc : α → PyData} (xs : List α) (b : α → Bool) (val : α → PyData) (hi : EvI (K := K) (w := w) wi ρ (xs.map enc)) (hz : xs.length ≤ 50000)
    (turn : ∀ a ∈ xs, ∃ f, TgOk K g vs (enc a) f ∧ EvB K w tt (f (wipeS ρ vs)) (b a) ∧ (b a = true → EvD K w te (f (wipeS ρ vs)) (val a))) :
    EvN K w (tLc wi g tt te vs) ρ ((xs.filter b).map val) := by
  refine EvNR.toN ((enr_lc (fun i ds => ds = (((xs.take i).filter b).map val)) hi (by rw [List.length_map]; exact hz) rfl (fun i ds h => ?_) fun i d hd => ?_).imp fun ds h => ?_)
  · rw [h, List.length_map]
    exact Nat.le_trans (List.length_filter_le _ _) (by rw [List.length_take]; exact Nat.min_le_left _ _)
  · rw [List.getElem?_map] at hd
    cases hx : xs[i]? with
    | none => rw [hx] at hd; cases hd
    | some a =>
      rw [hx] at hd
      cases hd
      obtain ⟨f, t1, t2, t3⟩ := turn a (List.mem_of_getElem? hx)
      refine ⟨f, t1, b a, t2, ?_⟩
      have et : xs.take (i + 1) = xs.take i ++ [a] := by rw [List.take_add_one, hx]; rfl
      cases hb : b a with
      | true =>
        rw [if_pos rfl]
        refine (t3 hb).toR fun ds hds => ?_
        rw [hds, et, List.filter_append, List.map_append, List.filter_cons, if_pos hb]
        rfl
      | false =>
        rw [if_neg (by decide)]
        intro ds hds
        rw [hds, et, List.filter_append, List.map_append, List.filter_cons, if_neg (by rw [hb]; decide)]
        simp
  · rw [h, List.length_map, List.take_length]
/-- without a test -/
theorem en_map {α : Type} {wi : TI} {g : TG} {te : TE} {vs : List Nat} {enc : α → PyData} (xs : List α) (val : α → PyData) (hi : EvI (K := K) (w := w) wi ρ (xs.map enc)) (hz : xs.length ≤ 50000)
    (turn : ∀ a ∈ xs, ∃ f, TgOk K g vs (enc a) f ∧ EvD K w te (f (wipeS ρ vs)) (val a)) :
    EvN K w (tLc wi g tYes te vs) ρ (xs.map val) := by
  have h := en_lc (K := K) (w := w) (ρ := ρ) (g := g) (te := te) (tt := tYes) (vs := vs) (enc := enc) xs (fun _ => true) val hi hz fun a ha => by
    obtain ⟨f, t1, t2⟩ := turn a ha
    exact ⟨f, t1, eb_yes, fun _ => t2⟩
  rwa [List.filter_eq_self.mpr fun _ _ => rfl] at h
/-- without a test, each item some value -/
theorem enr_map {α : Type} {wi : TI} {g : TG} {te : TE} {vs : List Nat} {enc : α → PyData} (xs : List α) (V : α → PyData → Prop) (hi : EvI (K := K) (w := w) wi ρ (xs.map enc)) (hz : xs.length ≤ 50000)
    (turn : ∀ a ∈ xs, ∃ f, TgOk K g vs (enc a) f ∧ EvR K w te (f (wipeS ρ vs)) (V a)) :
    EvNR K w (tLc wi g tYes te vs) ρ (fun ds => ds.length = xs.length ∧ ∀ (i : Nat) a d, xs[i]? = some a → ds[i]? = some d → V a d) := by
  refine (enr_lc (fun i ds => ds.length = i ∧ ∀ (k : Nat) a d, xs[k]? = some a → ds[k]? = some d → V a d) hi (by rw [List.length_map]; exact hz) ⟨rfl, fun k a d _ h => nomatch h⟩ (fun i ds h => Nat.le_of_eq h.1) fun i d hd => ?_).imp fun ds h => ?_
  · rw [List.getElem?_map] at hd
    cases hx : xs[i]? with
    | none => rw [hx] at hd; cases hd
    | some a =>
      rw [hx] at hd
      cases hd
      obtain ⟨f, t1, t2⟩ := turn a (List.mem_of_getElem? hx)
      refine ⟨f, t1, true, eb_yes, ?_⟩
      rw [if_pos rfl]
      refine t2.imp fun y hy ds hds => ⟨by rw [List.length_append, hds.1]; rfl, fun k c z hc hz => ?_⟩
      by_cases hk : k < ds.length
      · rw [List.getElem?_append_left hk] at hz
        exact hds.2 k c z hc hz
      · rw [List.getElem?_append_right (by omega)] at hz
        have hk0 : k - ds.length = 0 := by
          have := (List.getElem?_eq_some_iff.mp hz).1
          simp at this
          omega
        have hki : k = i := by have := hds.1; omega
        rw [hk0] at hz
        cases hz
        rw [hki, hx] at hc
        cases hc
        exact hy
  · rw [List.length_map] at h
    exact h
end
end G
end
section
set_option Elab.async false
set_option linter.all false
set_option maxRecDepth 100000
set_option maxHeartbeats 1000000
/-! layer G: statements -/
namespace G
open PySem PySem.Spec PyProof.Rows L2
/-- what is wanted behind a statement -/
structure Po where
  nx : List Sl → Prop
  rt : PyData → Prop := fun _ => False
  rn : List PyData → Prop := fun _ => False
  bk : List Sl → Prop := fun _ => False
  ct : List Sl → Prop := fun _ => False
section
variable (K : PySem.W.Frag) (w : World)
structure EndsOk (I0 H0 : Hp) (P : Po) (D : Ends) : Prop where
  nx : ∀ ρ σ I H, P.nx ρ → EnvOk K w H0 I H σ ρ → Le I0 H0 I H → D.nx σ H
  rt : ∀ d v I H, P.rt d → Le I0 H0 I H → Dp K I v d → D.rt v H
  rn : ∀ ds l xs I H, P.rn ds → Le I0 H0 I H → H0 l = none → I l = none → H l = some (.lst xs) → DpAll K I xs ds → D.rt (.ref l) H
  bk : ∀ ρ σ I H, P.bk ρ → EnvOk K w H0 I H σ ρ → Le I0 H0 I H → D.bk σ H
  ct : ∀ ρ σ I H, P.ct ρ → EnvOk K w H0 I H σ ρ → Le I0 H0 I H → D.ct σ H
def HS (t : TS) (ρ : List Sl) (P : Po) : Prop := ∀ I0 H0 D I H σ, EnvOk K w H0 I H σ ρ → Le I0 H0 I H → EndsOk K w I0 H0 P D → t D σ H
/-- a target -/
def HG (g : TG) (ρ : List Sl) (d : PyData) (Nx : List Sl → Prop) : Prop := ∀ I0 H0 I H σ v, EnvOk K w H0 I H σ ρ → Le I0 H0 I H → Dp K I v d → ∀ Q : L2.St → Hp → Prop, (∀ ρ' σ' I' H', Nx ρ' → EnvOk K w H0 I' H' σ' ρ' → Le I0 H0 I' H' → Q σ' H') → g v σ H Q
def HGs (g : TGs) (ρ : List Sl) (ds : List PyData) (Nx : List Sl → Prop) : Prop := ∀ I0 H0 I H σ vs, EnvOk K w H0 I H σ ρ → Le I0 H0 I H → DpAll K I vs ds → ∀ Q : L2.St → Hp → Prop, (∀ ρ' σ' I' H', Nx ρ' → EnvOk K w H0 I' H' σ' ρ' → Le I0 H0 I' H' → Q σ' H') → g vs σ H Q
end
section
variable {K : PySem.W.Frag} {w : World} {ρ : List Sl} {ta tb te tx tl : TE} {x y z d : PyData} {ds es : List PyData} {tt : TT} {t u : TS} {P : Po} {g : TG}
theorem EndsOk.step {I0 H0 I1 H1 : Hp} {D : Ends} (h : EndsOk K w I0 H0 P D) (l : Le I0 H0 I1 H1) : EndsOk K w I1 H0 P D :=
  have tr : ∀ {I H : Hp}, Le I1 H0 I H → Le I0 H0 I H := fun m => ⟨l.i.trans m.i, m.h, m.ih, fun p hp hi => m.fr p hp (l.fr p hp hi)⟩
  ⟨fun ρ σ I H a b m => h.nx ρ σ I H a b (tr m), fun d v I H a m => h.rt d v I H a (tr m), fun ds a xs I H b m => h.rn ds a xs I H b (tr m), fun ρ σ I H a b m => h.bk ρ σ I H a b (tr m), fun ρ σ I H a b m => h.ct ρ σ I H a b (tr m)⟩
theorem Le.from {I0 H0 I1 H1 : Hp} (l : Le I0 H0 I1 H1) : Le I1 H0 I1 H1 := ⟨.refl _, l.h, l.ih, fun _ _ h => h⟩
theorem EndsOk.nxt {I0 H0 : Hp} {D : Ends} (h : EndsOk K w I0 H0 P D) (hu : ∀ ρ', P.nx ρ' → P.nx ρ') (N : List Sl → Prop) (nx : L2.St → Hp → Prop) (hn : ∀ ρ σ I H, N ρ → EnvOk K w H0 I H σ ρ → Le I0 H0 I H → nx σ H) : EndsOk K w I0 H0 { P with nx := N } { D with nx := nx } :=
  ⟨hn, h.rt, h.rn, h.bk, h.ct⟩
theorem HS.imp {P' : Po} (h : HS K w t ρ P) (h1 : ∀ ρ, P.nx ρ → P'.nx ρ) (h2 : ∀ d, P.rt d → P'.rt d) (h3 : ∀ d, P.rn d → P'.rn d) (h4 : ∀ ρ, P.bk ρ → P'.bk ρ) (h5 : ∀ ρ, P.ct ρ → P'.ct ρ) : HS K w t ρ P' := fun I0 H0 D I H σ e l k =>
  h I0 H0 D I H σ e l ⟨fun ρ σ I H a => k.nx ρ σ I H (h1 ρ a), fun d v I H a => k.rt d v I H (h2 d a), fun ds a xs I H b => k.rn ds a xs I H (h3 ds b), fun ρ σ I H a => k.bk ρ σ I H (h4 ρ a), fun ρ σ I H a => k.ct ρ σ I H (h5 ρ a)⟩
theorem hs_next (h : P.nx ρ) : HS K w tNext ρ P := fun I0 H0 D I H σ e l k => k.nx ρ σ I H h e l
theorem hs_break (h : P.bk ρ) : HS K w tBreak ρ P := fun I0 H0 D I H σ e l k => k.bk ρ σ I H h e l
theorem hs_cont (h : P.ct ρ) : HS K w tCont ρ P := fun I0 H0 D I H σ e l k => k.ct ρ σ I H h e l
theorem hs_seq (h : HS K w t ρ { P with nx := fun ρ' => HS K w u ρ' P }) : HS K w (tSeq t u) ρ P := fun I0 H0 D I H σ e l k =>
  h I0 H0 { D with nx := u D } I H σ e l ⟨fun ρ' σ' I' H' hu e' l' => hu I0 H0 D I' H' σ' e' l' k, k.rt, k.rn, k.bk, k.ct⟩
/-- with what is known in between -/
theorem hs_seq_of (N : List Sl → Prop) (h : HS K w t ρ { P with nx := N }) (hu : ∀ ρ', N ρ' → HS K w u ρ' P) : HS K w (tSeq t u) ρ P := hs_seq (h.imp hu (fun _ h => h) (fun _ h => h) (fun _ h => h) (fun _ h => h))
theorem hs_asg {i : Nat} (h : EvD K w te ρ d) (k : P.nx (ρ.set i (.dat d))) : HS K w (tAsg te (gName i)) ρ P := fun I0 H0 D I H σ e l q =>
  h H0 I H σ e _ fun v I1 H1 l1 hv => q.nx _ _ I1 H1 k ((e.mono l1).setD i hv) (l.trans l1)
theorem hs_asgR {i : Nat} {R : PyData → Prop} (h : EvR K w te ρ R) (k : ∀ d, R d → P.nx (ρ.set i (.dat d))) : HS K w (tAsg te (gName i)) ρ P := fun I0 H0 D I H σ e l q =>
  h H0 I H σ e _ fun d v I1 H1 hd l1 hv => q.nx _ _ I1 H1 (k d hd) ((e.mono l1).setD i hv) (l.trans l1)
theorem hs_asgN {i : Nat} (h : EvN K w te ρ ds) (k : P.nx (ρ.set i (.lis ds))) : HS K w (tAsg te (gName i)) ρ P := fun I0 H0 D I H σ e l q =>
  h H0 I H σ e _ fun a xs I1 H1 l1 h1 h2 h3 h4 => q.nx _ _ I1 H1 k (e.setN l1 i h1 h2 h3 h4) (l.trans l1)
theorem hs_asgNR {i : Nat} {R : List PyData → Prop} (h : EvNR K w te ρ R) (k : ∀ ds, R ds → P.nx (ρ.set i (.lis ds))) : HS K w (tAsg te (gName i)) ρ P := fun I0 H0 D I H σ e l q =>
  h H0 I H σ e _ fun ds a xs I1 H1 hd l1 h1 h2 h3 h4 => q.nx _ _ I1 H1 (k ds hd) (e.setN l1 i h1 h2 h3 h4) (l.trans l1)
theorem hs_freeze {i : Nat} (hi : ρ[i]? = some (.lis ds)) (h : HS K w t (ρ.set i (.dat (.list ds))) P) : HS K w t ρ P := fun I0 H0 D I H σ e l q => by
  obtain ⟨x, hx, a, xs, rfl, h1, h2, h3, h4⟩ := e.slot hi
  have hl : i < ρ.length := (List.getElem?_eq_some_iff.mp hi).1
  have es : σ.set i (some (.ref a)) = σ := by
    apply List.ext_getElem?
    intro j
    by_cases hj : i = j
    · subst hj; rw [List.getElem?_set_self (by rw [e.len]; exact hl), hx]
    · rw [List.getElem?_set_ne hj]
  have lf : Le I0 H0 (upd I a (.lst xs)) H := l.freeze h1 h2 h3
  have e2 : EnvOk K w H0 (upd I a (.lst xs)) H (σ.set i (some (.ref a))) (ρ.set i (.dat (.list ds))) := by
    refine ⟨e.base, lf.ih, by rw [List.length_set, List.length_set, e.len], fun j s x e1 e2 => ?_, fun j k b s t e1 e2 m1 m2 v1 v2 => ?_⟩
    · by_cases hj : i = j
      · subst hj
        rw [List.getElem?_set_self hl] at e1
        rw [es, hx] at e2
        cases e1; cases e2
        exact ⟨.ref a, rfl, .lst (sq_of upd_same) (h4.ex (.new h2))⟩
      · rw [List.getElem?_set_ne hj] at e1 e2
        have q := e.ok j s x e1 e2
        cases s with
        | any => trivial
        | dat d => obtain ⟨v, e1, q⟩ := q; exact ⟨v, e1, q.ex (.new h2)⟩
        | val v => exact q
        | bor ds => obtain ⟨b, ys, e1, q, r⟩ := q; exact ⟨b, ys, e1, q, r.ex (.new h2)⟩
        | lis fs =>
          obtain ⟨c, zs, rfl, r1, r2, r3, r4⟩ := q
          refine ⟨c, zs, rfl, r1, ?_, r3, r4.ex (.new h2)⟩
          rw [upd_ne (fun z => hj (by subst z; exact e.dis i j c _ _ hi e1 trivial trivial hx e2))]
          exact r2
        | set S n =>
          obtain ⟨c, rfl, r1, r2, r3⟩ := q
          refine ⟨c, rfl, r1, ?_, r3⟩
          rw [upd_ne (fun z => hj (by subst z; exact e.dis i j c _ _ hi e1 trivial trivial hx e2))]
          exact r2
        | pool n => exact q
    · by_cases hj : i = j
      · subst hj
        rw [List.getElem?_set_self hl] at e1
        cases e1
        exact m1.elim
      · by_cases hk : i = k
        · subst hk
          rw [List.getElem?_set_self hl] at e2
          cases e2
          exact m2.elim
        · rw [List.getElem?_set_ne hj] at e1 v1
          rw [List.getElem?_set_ne hk] at e2 v2
          exact e.dis j k b s t e1 e2 m1 m2 v1 v2
  rw [es] at e2
  exact h I0 H0 D _ H σ e2 lf q
/-- slots may be forgotten -/
theorem EnvOk.forget {H0 I H : Hp} {σ : L2.St} (e : EnvOk K w H0 I H σ ρ) (i : Nat) : EnvOk K w H0 I H σ (ρ.set i .any) := by
  refine ⟨e.base, e.ih, by rw [List.length_set, e.len], fun j s x e1 e2 => ?_, fun j k b s t e1 e2 m1 m2 v1 v2 => ?_⟩
  · by_cases hj : i = j
    · subst hj
      have hl : i < ρ.length := by have := (List.getElem?_eq_some_iff.mp e1).1; rwa [List.length_set] at this
      rw [List.getElem?_set_self hl] at e1
      cases e1; trivial
    · rw [List.getElem?_set_ne hj] at e1
      exact e.ok j s x e1 e2
  · by_cases hj : i = j
    · subst hj
      have hl : i < ρ.length := by have := (List.getElem?_eq_some_iff.mp e1).1; rwa [List.length_set] at this
      rw [List.getElem?_set_self hl] at e1
      cases e1; exact m1.elim
    · by_cases hk : i = k
      · subst hk
        have hl : i < ρ.length := by have := (List.getElem?_eq_some_iff.mp e2).1; rwa [List.length_set] at this
        rw [List.getElem?_set_self hl] at e2
        cases e2; exact m2.elim
      · rw [List.getElem?_set_ne hj] at e1
        rw [List.getElem?_set_ne hk] at e2
        exact e.dis j k b s t e1 e2 m1 m2 v1 v2
theorem hs_forget (i : Nat) (h : HS K w t (ρ.set i .any) P) : HS K w t ρ P := fun I0 H0 D I H σ e l q => h I0 H0 D I H σ (e.forget i) l q
/-- ρ' knows no more than ρ -/
inductive Wk : List Sl → List Sl → Prop
  | nil : Wk [] []
  | any {s : Sl} {ρ ρ' : List Sl} : Wk ρ ρ' → Wk (s :: ρ) (.any :: ρ')
  | same {s : Sl} {ρ ρ' : List Sl} : Wk ρ ρ' → Wk (s :: ρ) (s :: ρ')
theorem Wk.len {ρ ρ' : List Sl} (k : Wk ρ ρ') : ρ.length = ρ'.length := by
  induction k with
  | nil => rfl
  | any _ ih => rw [List.length_cons, List.length_cons, ih]
  | same _ ih => rw [List.length_cons, List.length_cons, ih]
theorem Wk.get {ρ ρ' : List Sl} (k : Wk ρ ρ') : ∀ (i : Nat) (s : Sl), ρ'[i]? = some s → s = .any ∨ ρ[i]? = some s := by
  induction k with
  | nil => intro i s h; simp at h
  | any _ ih =>
    intro i s h
    cases i with
    | zero => left; simpa using h.symm
    | succ i => exact ih i s (by simpa using h)
  | same _ ih =>
    intro i s h
    cases i with
    | zero => right; simpa using h
    | succ i => exact ih i s (by simpa using h)
theorem EnvOk.wk {ρ' : List Sl} {H0 I H : Hp} {σ : L2.St} (e : EnvOk K w H0 I H σ ρ) (k : Wk ρ ρ') : EnvOk K w H0 I H σ ρ' := by
  refine ⟨e.base, e.ih, e.len.trans k.len, fun j s x e1 e2 => ?_, fun i j b s t e1 e2 m1 m2 v1 v2 => ?_⟩
  · rcases k.get j s e1 with h | h
    · subst h; trivial
    · exact e.ok j s x h e2
  · rcases k.get i s e1 with h | h
    · subst h; exact m1.elim
    · rcases k.get j t e2 with h' | h'
      · subst h'; exact m2.elim
      · exact e.dis i j b s t h h' m1 m2 v1 v2
theorem hs_wk {ρ' : List Sl} (k : Wk ρ ρ') (h : HS K w t ρ' P) : HS K w t ρ P := fun I0 H0 D I H σ e l q => h I0 H0 D I H σ (e.wk k) l q
theorem hs_ret (h : EvD K w te ρ d) (k : P.rt d) : HS K w (tRet te) ρ P := fun I0 H0 D I H σ e l q =>
  h H0 I H σ e _ fun v I1 H1 l1 hv => q.rt d v I1 H1 k (l.trans l1) hv
theorem hs_retR {R : PyData → Prop} (h : EvR K w te ρ R) (k : ∀ d, R d → P.rt d) : HS K w (tRet te) ρ P := fun I0 H0 D I H σ e l q =>
  h H0 I H σ e _ fun d v I1 H1 hd l1 hv => q.rt d v I1 H1 (k d hd) (l.trans l1) hv
theorem hs_retN (h : EvN K w te ρ ds) (k : P.rn ds) : HS K w (tRet te) ρ P := fun I0 H0 D I H σ e l q =>
  h H0 I H σ e _ fun a xs I1 H1 l1 h1 h2 h3 h4 => q.rn ds a xs I1 H1 k (l.trans l1) (e.base.free h1) h2 h3 h4
theorem hs_retNR {R : List PyData → Prop} (h : EvNR K w te ρ R) (k : ∀ ds, R ds → P.rn ds) : HS K w (tRet te) ρ P := fun I0 H0 D I H σ e l q =>
  h H0 I H σ e _ fun ds a xs I1 H1 hd l1 h1 h2 h3 h4 => q.rn ds a xs I1 H1 (k ds hd) (l.trans l1) (e.base.free h1) h2 h3 h4
/-- return xs, a list of the def's own: frozen, or as a new one -/
theorem hs_retF {i : Nat} (hi : ρ[i]? = some (.lis ds)) (k : P.rt (.list ds)) : HS K w (tRet (tVar i)) ρ P :=
  hs_freeze hi (hs_ret (ev_var (by rw [List.getElem?_set_self (List.getElem?_eq_some_iff.mp hi).1])) k)
theorem hs_retM {i : Nat} (hi : ρ[i]? = some (.lis ds)) (k : P.rn ds) : HS K w (tRet (tVar i)) ρ P := fun I0 H0 D I H σ e l q => by
  obtain ⟨x, hx, a, xs, rfl, h1, h2, h3, h4⟩ := e.slot hi
  exact ⟨.ref a, hx, q.rn ds a xs I H k l h1 h2 h3 h4⟩
theorem hs_if {b : Bool} (h : EvB K w tt ρ b) (h1 : b = true → HS K w t ρ P) (h2 : b = false → HS K w u ρ P) : HS K w (tIfS tt t u) ρ P := fun I0 H0 D I H σ e l q =>
  h H0 I H σ e _ fun I1 H1 l1 => by
    cases b with
    | true => exact h1 rfl I0 H0 D I1 H1 σ (e.mono l1) (l.trans l1) q
    | false => exact h2 rfl I0 H0 D I1 H1 σ (e.mono l1) (l.trans l1) q
theorem hs_append {i : Nat} (hi : ρ[i]? = some (.lis ds)) (h : EvD K w te ρ d) (hz : ds.length < 100000) (k : P.nx (ρ.set i (.lis (ds ++ [d])))) : HS K w (tDrop (tBM K "list" rAppend (tVar i) (tCons te tNil))) ρ P := fun I0 H0 D I H σ e l q => by
  obtain ⟨x, hx, a, xs, rfl, h1, h2, h3, h4⟩ := e.slot hi
  refine ⟨.ref a, hx, .inl ⟨rfl, xs, sq_of h3⟩, h H0 I H σ e _ fun v I1 H1 l1 hv => ⟨a, xs, v, rfl, rfl, l1.h a _ h3, sz_lt (by rw [dpa_len h4]; exact hz), ?_⟩⟩
  have e2 := (e.mono l1).chg hi hx (dpa_app (h4.ex l1.i) (dpa_one hv))
  refine q.nx _ σ I1 _ k e2 ?_
  have l2 := l.trans l1
  exact ⟨l2.i, e2.base, e2.ih, l2.fr⟩
theorem hs_setI {i : Nat} {j : Int} {k : Nat} (hi : ρ[i]? = some (.lis ds)) (h : EvD K w te ρ d) (hb : EvD K w tb ρ (.int j)) (hj : ixN ds.length j = some k) (n : P.nx (ρ.set i (.lis (ds.set k d)))) : HS K w (tAsg te (gSub (tVar i) tb rSetL)) ρ P := fun I0 H0 D I H σ e l q =>
  h H0 I H σ e _ fun v I1 H1 l1 hv => by
    have e1 := e.mono l1
    obtain ⟨x, hx, a, xs, rfl, h1, h2, h3, h4⟩ := e1.slot hi
    refine ⟨.ref a, hx, hb H0 I1 H1 σ e1 _ fun u I2 H2 l2 hu => ?_⟩
    cases dp_int hu
    refine ⟨a, xs, j, k, rfl, rfl, l2.h a _ h3, by rw [dpa_len h4]; exact hj, ?_⟩
    have e2 := (e1.mono l2).chg hi hx (dpa_set (hv.ex l2.i) k (h4.ex l2.i))
    have l3 := (l.trans l1).trans l2
    exact q.nx _ σ I2 _ n e2 ⟨l3.i, e2.base, e2.ih, l3.fr⟩
theorem hs_setIn {i : Nat} {k : Nat} (hi : ρ[i]? = some (.lis ds)) (h : EvD K w te ρ d) (hb : EvD K w tb ρ (.int (k : Int))) (hj : k < ds.length) (n : P.nx (ρ.set i (.lis (ds.set k d)))) : HS K w (tAsg te (gSub (tVar i) tb rSetL)) ρ P :=
  hs_setI hi h hb (ixN_nat hj) n
theorem hs_aug {i : Nat} {f : Int → Int → Int} {a b : Int} (hi : ρ[i]? = some (.dat (.int a))) (h : EvD K w te ρ (.int b)) (k : P.nx (ρ.set i (.dat (.int (f a b))))) : HS K w (tAug i te (ipI f)) ρ P := fun I0 H0 D I H σ e l q => by
  obtain ⟨x, hx, v, rfl, hv⟩ := e.slot hi
  cases dp_int hv
  refine ⟨.int a, hx, h H0 I H σ e _ fun u I1 H1 l1 hu => ?_⟩
  cases dp_int hu
  exact ⟨a, b, rfl, rfl, q.nx _ _ I1 H1 k ((e.mono l1).setD i (.int _)) (l.trans l1)⟩
theorem hs_par {i j : Nat} {ta : TA} (h : EvA K w ta ρ [.dat x, .dat y]) (k : P.nx ((ρ.set i (.dat x)).set j (.dat y))) : HS K w (tPar i j ta) ρ P := fun I0 H0 D I H σ e l q =>
  h H0 I H σ e _ fun vs I1 H1 l1 hvs => by
    obtain ⟨v, u, rfl, h1, h2⟩ := ars2 hvs
    exact ⟨v, u, rfl, q.nx _ _ I1 H1 k (((e.mono l1).setD i h1).setD j h2) (l.trans l1)⟩
theorem hs_drop (h : EvD K w te ρ d) (k : P.nx ρ) : HS K w (tDrop te) ρ P := fun I0 H0 D I H σ e l q =>
  h H0 I H σ e _ fun v I1 H1 l1 hv => q.nx _ _ I1 H1 k (e.mono l1) (l.trans l1)

/-! targets -/
theorem hg_name {i : Nat} {Nx : List Sl → Prop} (h : Nx (ρ.set i (.dat d))) : HG K w (gName i) ρ d Nx := fun I0 H0 I H σ v e l hv Q q => q _ _ I H h (e.setD i hv) l
theorem hg_tup {n : Nat} {gs : TGs} {Nx : List Sl → Prop} (hn : ds.length = n) (h : HGs K w gs ρ ds Nx) : HG K w (gTup K n gs) ρ (.tuple ds) Nx := fun I0 H0 I H σ v e l hv Q q => by
  obtain ⟨a, xs, rfl, h1, h2⟩ := dp_tup hv
  exact ⟨a, xs, rfl, e.ih.t h1, by rw [dpa_len h2]; exact hn, h I0 H0 I H σ xs e l h2 Q q⟩
theorem hgs_nil {Nx : List Sl → Prop} (h : Nx ρ) : HGs K w gNil ρ [] Nx := fun I0 H0 I H σ vs e l hv Q q => by
  cases hv
  exact ⟨rfl, q _ _ I H h e l⟩
theorem hgs_name {i : Nat} {gs : TGs} {Nx : List Sl → Prop} (h : HGs K w gs (ρ.set i (.dat d)) ds Nx) : HGs K w (gCons (gName i) gs) ρ (d :: ds) Nx := fun I0 H0 I H σ vs e l hv Q q => by
  cases hv with
  | cons h1 h2 => exact ⟨_, _, rfl, h I0 H0 I H _ _ (e.setD i h1) l h2 Q q⟩
/-- a name, then a pair of names: for x, (a, b) in .. -/
theorem hgs_pair {i j : Nat} {a b : PyData} {gs : TGs} {Nx : List Sl → Prop} (h : HGs K w gs ((ρ.set i (.dat a)).set j (.dat b)) ds Nx) : HGs K w (gCons (gTup K 2 (gCons (gName i) (gCons (gName j) gNil))) gs) ρ (.tuple [a, b] :: ds) Nx := fun I0 H0 I H σ vs e l hv Q q => by
  cases hv with
  | cons h1 h2 =>
    obtain ⟨p, xs, rfl, k1, k2⟩ := dp_tup h1
    cases k2 with
    | cons k2 k3 =>
      cases k3 with
      | cons k3 k4 =>
        cases k4
        exact ⟨_, _, rfl, p, _, rfl, e.ih.t k1, rfl, _, _, rfl, _, _, rfl, rfl, h I0 H0 I H _ _ ((e.setD i k2).setD j k3) l h2 Q q⟩
theorem hs_asgG (h : EvD K w te ρ d) (k : HG K w g ρ d P.nx) : HS K w (tAsg te g) ρ P := fun I0 H0 D I H σ e l q =>
  h H0 I H σ e _ fun v I1 H1 l1 hv => k I0 H0 I1 H1 σ v (e.mono l1) (l.trans l1) hv _ fun ρ' σ' I' H' hn e' l' => q.nx ρ' σ' I' H' hn e' l'
theorem hs_asgGR {R : PyData → Prop} (h : EvR K w te ρ R) (k : ∀ d, R d → HG K w g ρ d P.nx) : HS K w (tAsg te g) ρ P := fun I0 H0 D I H σ e l q =>
  h H0 I H σ e _ fun d v I1 H1 hd l1 hv => k d hd I0 H0 I1 H1 σ v (e.mono l1) (l.trans l1) hv _ fun ρ' σ' I' H' hn e' l' => q.nx ρ' σ' I' H' hn e' l'

/-! loops -/
theorem hs_for {wi : TI} {items : List PyData} (Inv : Nat → List Sl → Prop) (hi : EvI (K := K) (w := w) wi ρ items) (h0 : Inv 0 ρ)
    (hs : ∀ (i : Nat) (d : PyData) (ρ' : List Sl), items[i]? = some d → Inv i ρ' → HG K w g ρ' d fun ρ2 => HS K w t ρ2 { P with nx := Inv (i + 1), ct := Inv (i + 1), bk := P.nx })
    (hd : ∀ ρ', Inv items.length ρ' → P.nx ρ') : HS K w (tFor wi g t) ρ P := fun I0 H0 D I H σ e l q => by
  refine hi H0 I H σ e _ fun J I1 H1 l1 it => ?_
  have l01 := l.trans l1
  have q1 := q.step l01
  refine ⟨fun i m σ H => m = items.length - i ∧ i ≤ items.length ∧ ∃ ρ' I', Inv i ρ' ∧ EnvOk K w H0 I' H σ ρ' ∧ Le I1 H0 I' H, ⟨_, rfl, Nat.zero_le _, ρ, I1, h0, e.mono l1, l01.from⟩, ?_⟩
  rintro i m σ' H' ⟨rfl, hle, ρ', I', hinv, e', l'⟩
  by_cases hlt : i < items.length
  · refine .inr ⟨it.go i I' H' l'.i l'.ih hlt, fun σ2 H2 => ∃ ρ2 I2, Inv (i + 1) ρ2 ∧ EnvOk K w H0 I2 H2 σ2 ρ2 ∧ Le I1 H0 I2 H2, fun σ2 H2 hN => ⟨items.length - (i + 1), by omega, rfl, hlt, hN⟩, fun x H2 hy => ?_⟩
    obtain ⟨I2, d, hid, l2, hx⟩ := it.yld i I' H' x H2 l'.i l'.ih hlt hy
    refine hs i d ρ' hid hinv I1 H0 I2 H2 σ' x (e'.mono l2) (l'.trans l2) hx _ fun ρ3 σ3 I3 H3 hb e3 l3 => ?_
    exact hb I1 H0 _ I3 H3 σ3 e3 l3 ⟨fun ρ4 σ4 I4 H4 a b c => ⟨ρ4, I4, a, b, c⟩, q1.rt, q1.rn, q1.nx, fun ρ4 σ4 I4 H4 a b c => ⟨ρ4, I4, a, b, c⟩⟩
  · have e0 : i = items.length := by omega
    subst e0
    exact .inl ⟨it.stop I' H' l'.i l'.ih, q1.nx ρ' σ' I' H' (hd ρ' hinv) e' l'⟩
theorem hs_while (Inv : Nat → List Sl → Prop) (m0 : Nat) (h0 : Inv m0 ρ)
    (hs : ∀ (m : Nat) (ρ' : List Sl), Inv m ρ' → ∃ b : Bool, EvB K w tt ρ' b ∧ (b = true → HS K w t ρ' { P with nx := fun ρ2 => ∃ m', m' < m ∧ Inv m' ρ2, ct := fun ρ2 => ∃ m', m' < m ∧ Inv m' ρ2, bk := P.nx }) ∧ (b = false → P.nx ρ')) : HS K w (tWhile tt t) ρ P := fun I0 H0 D I H σ e l q => by
  refine ⟨fun m σ H => ∃ ρ' I', Inv m ρ' ∧ EnvOk K w H0 I' H σ ρ' ∧ Le I0 H0 I' H, ⟨m0, ρ, I, h0, e, l⟩, ?_⟩
  rintro m σ' H' ⟨ρ', I', hinv, e', l'⟩
  obtain ⟨b, hb, h1, h2⟩ := hs m ρ' hinv
  refine hb H0 I' H' σ' e' _ fun I2 H2 l2 => ?_
  cases b with
  | true =>
    refine ⟨fun σ3 H3 => ∃ m' ρ3 I3, m' < m ∧ Inv m' ρ3 ∧ EnvOk K w H0 I3 H3 σ3 ρ3 ∧ Le I0 H0 I3 H3, fun σ3 H3 ⟨m', ρ3, I3, a, b, c, d⟩ => ⟨m', a, ρ3, I3, b, c, d⟩, ?_⟩
    exact h1 rfl I0 H0 _ I2 H2 σ' (e'.mono l2) (l'.trans l2) ⟨fun ρ4 σ4 I4 H4 ⟨m', a, b⟩ c d => ⟨m', ρ4, I4, a, b, c, d⟩, q.rt, q.rn, q.nx, fun ρ4 σ4 I4 H4 ⟨m', a, b⟩ c d => ⟨m', ρ4, I4, a, b, c, d⟩⟩
  | false => exact q.nx ρ' σ' I2 H2 (h2 rfl) (e'.mono l2) (l'.trans l2)

/-! sets -/
theorem hs_sadd {i : Nat} {k : Int} {S : Int → Bool} {n : Nat} (hi : ρ[i]? = some (.set S n)) (h : EvD K w te ρ (.int k)) (hz : n < 60) (q : P.nx (ρ.set i (.set (fun j => S j || decide (j = k)) (if S k = true then n else n + 1)))) : HS K w (tDrop (tSAdd w (tVar i) (tCons te tNil))) ρ P := fun I0 H0 D I H σ e l c => by
  obtain ⟨x, hx, a, rfl, h1, h2, h3⟩ := e.slot hi
  refine ⟨.ref a, hx, ⟨a, S, n, rfl, h3⟩, h H0 I H σ e _ fun v I1 H1 l1 hv => ?_⟩
  cases dp_int hv
  refine ⟨a, k, S, n, rfl, rfl, l1.h a _ h3, Nat.lt_trans (by omega : n + 1 < 100) (by decide), ?_⟩
  have e2 := (e.mono l1).chgS hi hx (S' := fun j => S j || decide (j = k)) (n' := if S k = true then n else n + 1)
  have l2 := l.trans l1
  exact c.nx _ σ I1 _ q e2 ⟨l2.i, e2.base, e2.ih, l2.fr⟩
/-- x = {e} -/
def tSet1 (w : World) (te : TE) : TE := fun σ H Q => ∀ p, H p = none → te σ (upd H p (SetO w p (fun _ => false) 0)) fun x H1 => ∃ k : Int, x = .int k ∧ H1 p = some (SetO w p (fun _ => false) 0) ∧ Q (.ref p) (upd H1 p (SetO w p (fun j => decide (j = k)) 1))
theorem hs_asgS {i : Nat} {k : Int} (h : EvD K w te ρ (.int k)) (q : P.nx (ρ.set i (.set (fun j => decide (j = k)) 1))) : HS K w (tAsg (tSet1 w te) (gName i)) ρ P := fun I0 H0 D I H σ e l c p hp => by
  have lr : Le I H I (upd H p (SetO w p (fun _ => false) 0)) := .raw l.ih hp
  refine h H0 I _ σ (e.mono lr) _ fun v I1 H1 l1 hv => ?_
  cases dp_int hv
  have hi : I1 p = none := l1.fr p (by rw [upd_same]; exact fun z => nomatch z) (l.ih.free hp)
  have h0 : H0 p = none := e.base.free hp
  have hH : H1 p = some (SetO w p (fun _ => false) 0) := l1.h p _ upd_same
  refine ⟨k, rfl, hH, ?_⟩
  have e1 := (e.mono lr).mono l1
  have l2 := (l.trans lr).trans l1
  have ex : ∀ b o, b ≠ p → H1 b = some o → upd H1 p (SetO w p (fun j => decide (j = k)) 1) b = some o := fun b o hb q => by rw [upd_ne hb]; exact q
  have nop : ∀ (j : Nat) (t : Sl), ρ[j]? = some t → t.isMut → σ[j]? ≠ some (some (.ref p)) := fun j t et m es => by
    have z := e.ok j t _ et es
    cases t with
    | lis es =>
      obtain ⟨b, ys, y, _, _, y2, _⟩ := z
      cases y
      rw [hp] at y2; cases y2
    | set S n =>
      obtain ⟨b, y, _, _, y2⟩ := z
      cases y
      rw [hp] at y2; cases y2
    | _ => exact m.elim
  -- the set is filled
  have e2 : EnvOk K w H0 I1 (upd H1 p (SetO w p (fun j => decide (j = k)) 1)) σ ρ := by
    refine ⟨fun b o q => ex b o (fun z => by subst z; rw [h0] at q; cases q) (e1.base b o q), fun b o q => ex b o (fun z => by subst z; rw [hi] at q; cases q) (e1.ih b o q), e1.len, fun j s x es ex' => ?_, e1.dis⟩
    have z := e1.ok j s x es ex'
    cases s with
    | any => trivial
    | dat d => exact z
    | val v => exact z
    | bor ds => exact z
    | lis fs =>
      obtain ⟨c, zs, rfl, r1, r2, r3, r4⟩ := z
      exact ⟨c, zs, rfl, r1, r2, ex c _ (fun z => nop j _ es trivial (by rw [ex', z])) r3, r4⟩
    | set S n =>
      obtain ⟨c, rfl, r1, r2, r3⟩ := z
      exact ⟨c, rfl, r1, r2, ex c _ (fun z => nop j _ es trivial (by rw [ex', z])) r3⟩
    | pool n => exact z
  refine c.nx _ _ I1 _ q (e2.set i ⟨p, rfl, h0, hi, upd_same⟩ fun _ b eb j t e1' m e2' => ?_) ⟨l2.i, e2.base, e2.ih, l2.fr⟩
  cases eb
  exact absurd e2' (nop j t e1' m)
/-- x = xs.pop() -/
theorem hs_asgPop {i j : Nat} (hij : i ≠ j) (hi : ρ[i]? = some (.lis (ds ++ [d]))) (k : P.nx ((ρ.set i (.lis ds)).set j (.dat d))) : HS K w (tAsg (tBM0 K "list" rPop (tVar i)) (gName j)) ρ P := fun I0 H0 D I H σ e l q => by
  obtain ⟨x, hx, a, xs, rfl, h1, h2, h3, h4⟩ := e.slot hi
  have hlen : xs.length = ds.length + 1 := by rw [dpa_len h4, List.length_append]; rfl
  obtain ⟨v, hv, hp⟩ := dpa_get h4 (i := ds.length) (d := d) (by rw [List.getElem?_append_right (Nat.le_refl _), Nat.sub_self]; rfl)
  refine ⟨.ref a, hx, .inl ⟨rfl, xs, sq_of h3⟩, a, xs, v, rfl, rfl, h3, by rw [hlen]; exact hv, ?_⟩
  have hdl : DpAll K I xs.dropLast ds := by
    have h5 := dpa_take ds.length h4
    rw [List.take_left' rfl] at h5
    rw [List.dropLast_eq_take, hlen]
    exact h5
  have e2 := e.chg hi hx hdl
  exact q.nx _ _ I _ k (e2.setD j hp) ⟨l.i, e2.base, e2.ih, l.fr⟩
end

/-! ### a def keeps its promise -/
section
variable {Pg : Program} {w : World} {K : PySem.W.Frag} {mg : Str → Option Value} {base : Heap}
def arSl : Ar → Sl
  | .dat d => .dat d
  | .bor ds => .bor ds
  | .val v => .val v
  | .pool n => .pool n
def rho0 (N : List Str) (as : List Ar) : List Sl := as.map arSl ++ List.replicate (N.length - as.length) .any
theorem env0 {I H : Hp} {N : List Str} : ∀ {vs : List V} {as : List Ar}, Ex I H → ArsOk K I H vs as → EnvOk K w H I H (L2.start N vs) (rho0 N as) := fun {vs as} e h => by
  have hl := h.len
  have key : ∀ {vs : List V} {as : List Ar}, ArsOk K I H vs as → ∀ (i : Nat) (a : Ar) (v : V), as[i]? = some a → vs[i]? = some v → ArOk K I H v a := by
    intro vs as h
    induction h with
    | nil => intro i a v h1; simp at h1
    | cons h1 _ ih =>
      intro i a v e1 e2
      cases i with
      | zero => simp at e1 e2; subst e1; subst e2; exact h1
      | succ i => exact ih i a v (by simpa using e1) (by simpa using e2)
  have noM : ∀ (i : Nat) (s : Sl), (rho0 N as)[i]? = some s → ¬ s.isMut := by
    intro i s hs hm
    unfold rho0 at hs
    by_cases hi : i < as.length
    · rw [List.getElem?_append_left (by rw [List.length_map]; exact hi), List.getElem?_map, List.getElem?_eq_getElem hi] at hs
      cases hs
      cases h : as[i] <;> rw [h] at hm <;> exact hm.elim
    · rw [List.getElem?_append_right (by rw [List.length_map]; omega), List.getElem?_replicate] at hs
      split at hs
      · cases hs; exact hm.elim
      · cases hs
  refine ⟨.refl _, e, ?_, fun i s x e1 e2 => ?_, fun i j a s t e1 e2 m1 => absurd m1 (noM i s e1)⟩
  · unfold L2.start rho0
    rw [List.length_append, List.length_append, List.length_map, List.length_map, List.length_replicate, List.length_replicate, hl]
  · unfold rho0 at e1
    unfold L2.start at e2
    by_cases hi : i < as.length
    · rw [List.getElem?_append_left (by rw [List.length_map]; exact hi), List.getElem?_map, List.getElem?_eq_getElem hi] at e1
      rw [List.getElem?_append_left (by rw [List.length_map, hl]; exact hi), List.getElem?_map, List.getElem?_eq_getElem (by rw [hl]; exact hi)] at e2
      cases e1; cases e2
      have q := key h i as[i] vs[i] (List.getElem?_eq_getElem hi) (List.getElem?_eq_getElem (by rw [hl]; exact hi))
      cases hc : as[i] with
      | dat d => rw [hc] at q; exact ⟨_, rfl, q⟩
      | bor ds => rw [hc] at q; obtain ⟨l, xs, e1, q1, q2⟩ := q; exact ⟨l, xs, by rw [e1], q1, q2⟩
      | val v => rw [hc] at q; exact congrArg some q
      | pool n => rw [hc] at q; obtain ⟨a, e1, q1⟩ := q; exact ⟨a, by rw [e1], q1⟩
    · rw [List.getElem?_append_right (by rw [List.length_map]; omega), List.getElem?_replicate] at e1
      split at e1
      · cases e1; trivial
      · cases e1
/-- the body's term and its pure reading -/
theorem fok {x : Str} {st : Stmt} {f : Addr} {fd : FuncData} {N ps : List Str} {k : Nat} {S : List Ar → (PyData → Prop) → Prop} (F : Fun K x x st f fd) (Sc : FnScope N ps (defScope st))
    (len : ∀ as R, S as R → as.length = ps.length)
    (hbody : ∀ (cdv : Value) (A : Around) (outer : List Env) (s : Shared) (H : Hp) (E : XK), Room k (A.deeper (envOfC x (defScope st) s.heap.objs.size f cdv)) →
      ∃ t, PSs (cxOf CX0 Pg w K mg base N x (defScope st) f cdv A outer s H E).nox (defBody st) t ∧ ∀ as R, S as R → HS K w t (rho0 N as) { nx := fun _ => False, rt := R }) : FnOk Pg w K mg base CX0 (k + 1) f fd ps (spD K S) := by
  refine F.ok Sc (fun vs H Q E h => ?_) (fun cdv A outer s H vs Q E hr h => ?_)
  · obtain ⟨I, as, _, ha, hS⟩ := h
    rw [ha.len]
    exact len as _ hS
  · obtain ⟨I, as, e, ha, hS⟩ := h
    obtain ⟨t, ht, hh⟩ := hbody cdv A outer s H E hr
    refine ⟨t, ht, hh as _ hS I H _ I H _ (env0 e ha) (.refl e) ⟨fun _ _ _ _ z => z.elim, fun d v I' H' hR l hv => hR v I' H' l hv, fun _ _ _ _ _ z => z.elim, fun _ _ _ _ z => z.elim, fun _ _ _ _ z => z.elim⟩⟩
theorem fokN {x : Str} {st : Stmt} {f : Addr} {fd : FuncData} {N ps : List Str} {k : Nat} {S : List Ar → (List PyData → Prop) → Prop} (F : Fun K x x st f fd) (Sc : FnScope N ps (defScope st))
    (len : ∀ as R, S as R → as.length = ps.length)
    (hbody : ∀ (cdv : Value) (A : Around) (outer : List Env) (s : Shared) (H : Hp) (E : XK), Room k (A.deeper (envOfC x (defScope st) s.heap.objs.size f cdv)) →
      ∃ t, PSs (cxOf CX0 Pg w K mg base N x (defScope st) f cdv A outer s H E).nox (defBody st) t ∧ ∀ as R, S as R → HS K w t (rho0 N as) { nx := fun _ => False, rn := R }) : FnOk Pg w K mg base CX0 (k + 1) f fd ps (spN K S) := by
  refine F.ok Sc (fun vs H Q E h => ?_) (fun cdv A outer s H vs Q E hr h => ?_)
  · obtain ⟨I, as, _, ha, hS⟩ := h
    rw [ha.len]
    exact len as _ hS
  · obtain ⟨I, as, e, ha, hS⟩ := h
    obtain ⟨t, ht, hh⟩ := hbody cdv A outer s H E hr
    refine ⟨t, ht, hh as _ hS I H _ I H _ (env0 e ha) (.refl e) ⟨fun _ _ _ _ z => z.elim, fun _ _ _ _ z => z.elim, fun ds l xs I' H' hR l' h1 h2 h3 h4 => hR l xs I' H' l' h1 h2 h3 h4, fun _ _ _ _ z => z.elim, fun _ _ _ _ z => z.elim⟩⟩
end
/-- a def that may be called by its name -/
structure Cal (Pg : Program) (w : World) (K : PySem.W.Frag) (mg : Str → Option Value) (base : Heap) (k : Nat) (x : Str) (sp : Sp) : Prop where
  ex : ∃ (f : Addr) (fd : FuncData) (ps : List Str), FnOk Pg w K mg base CX0 k f fd ps sp ∧ mg x = some (.ref f) ∧ PySem.W.keepIn K (.ref f) = true ∧ Binds K fd ps []
theorem pe_c {X : Cx} {k j : Nat} {x : Str} {sp : Sp} {p pos : Pos} {e : Expr} {es : List Expr} {t : TA} (c : Cal X.prog X.w X.K X.mg X.base k x sp) (hr : Room j X.A) (hk : k ≤ j) (hg : Gl X x) (ha : PA X (e :: es) t)
    (hdb : (x == ("__debug__" : Str)) = false := by decide) (he : starEach (e :: es) X.env = (false, eval e X.env) :: starEach es X.env := by rfl) (hpl : (backTo pos (starEach es X.env)).any (·.1) = false := by rfl) :
    PE X (.Call (.Name x p) (e :: es) [] pos) (tCall sp [] E0 t) := by
  obtain ⟨f, fd, ps, F, hm, kp, b⟩ := c.ex
  exact pe_call F (hr.mono hk) hg hm kp b .nil pass0 ha hdb he hpl
end G
end
section
set_option Elab.async false
set_option linter.all false
set_option maxRecDepth 100000
set_option maxHeartbeats 1000000
/-! the text: its statements by places, what its top leaves -/
namespace G
open PySem PySem.Spec PyProof.Rows L2
def topS (i : Nat) : Stmt := PySem.Challenge.pw_oddkeep_k53_whole_chances_between.main.body.getD i (.Pass ⟨0, 0, 0, 0⟩)
/-- the module's names that the defs read -/
structure Tx (K : PySem.W.Frag) (mg : Str → Option Value) (aN aO : Addr) : Prop where
  NOUGHT : mg "NOUGHT" = some (.ref aN)
  ONE : mg "ONE" = some (.ref aO)
  dN : ∀ I : Hp, Dp K I (.ref aN) (.tuple [.int 0, .int 1])
  dO : ∀ I : Hp, Dp K I (.ref aO) (.tuple [.int 1, .int 1])
  gcd : mg "gcd" = some (.builtin "math.gcd")
  len : mg "len" = none
  any : mg "any" = none
  all : mg "all" = none
  sum : mg "sum" = none
  abs : mg "abs" = none
  min_ : mg "min" = none
  int_ : mg "int" = none
  list : mg "list" = none
  sorted : mg "sorted" = none
  isinstance : mg "isinstance" = none
  range : mg "range" = none
  enumerate : mg "enumerate" = none
  zip : mg "zip" = none
  tuple : mg "tuple" = none
  bool : mg "bool" = none
/-- numbers as data -/
def num (q : Rat) : PyData := .tuple [.int q.num, .int (q.den : Int)]
theorem num0 : num 0 = .tuple [.int 0, .int 1] := rfl
theorem num1 : num 1 = .tuple [.int 1, .int 1] := rfl
section
variable {K : PySem.W.Frag} {mg : Str → Option Value} {aN aO : Addr} {w : World} {ρ : List Sl}
theorem Tx.evN (T : Tx K mg aN aO) : EvD K w (tC (.ref aN)) ρ (num 0) := ev_cst T.dN
theorem Tx.evO (T : Tx K mg aN aO) : EvD K w (tC (.ref aO)) ρ (num 1) := ev_cst T.dO
end
/-- small numbers -/
def Sm (b : Nat) (q : Rat) : Prop := q.num.natAbs < 2 ^ b ∧ q.den < 2 ^ b
end G
end
section
set_option Elab.async false
set_option linter.all false
set_option maxRecDepth 100000
set_option maxHeartbeats 1000000
/-! rules with the written part named K (their readings stand within comprehensions too) -/
namespace G
open PySem PySem.Spec PyProof.Rows L2
section
variable {X : Cx} {K : PySem.W.Frag} {a b e : Expr} {es : List Expr} {ta tb te : TE} {t : TA} {pos apos cpos p p2 tpos : Pos} {x : Str} {tg : Expr} {elts : List Expr} {kk : Nat}
theorem kx_ixT (hK : X.K = K) (ha : PE X a ta) (hb : PE X b tb) (hs : PlainIx b) : PE X (.Subscript a b pos) (tOp (rIxT K) ta tb) := by subst hK; exact pe_ix ix_tup ha hb hs
theorem kx_ixL (hK : X.K = K) (ha : PE X a ta) (hb : PE X b tb) (hs : PlainIx b) : PE X (.Subscript a b pos) (tOp (rIxL K) ta tb) := by subst hK; exact pe_ix ix_list ha hb hs
theorem kx_in (hK : X.K = K) (ha : PE X a ta) (hb : PE X b tb) (hm : behindInMarks .In b = false) : PE X (.Compare a [.In] [b] pos) (tOp (rIn K false) ta tb) := by subst hK; exact pe_cmpR op_in_seq ha hb hm
theorem kx_ni (hK : X.K = K) (ha : PE X a ta) (hb : PE X b tb) (hm : behindInMarks .NotIn b = false) : PE X (.Compare a [.NotIn] [b] pos) (tOp (rIn K true) ta tb) := by subst hK; exact pe_cmpR op_notIn_seq ha hb hm
theorem kx_eqD (hK : X.K = K) {k : Nat} (hr : Room k X.A) (ha : PE X a ta) (hb : PE X b tb) : PE X (.Compare a [.Eq] [b] pos) (tOp (rEqD K) ta tb) := by subst hK; exact pe_cmpR (op_eqD hr.units) ha hb (nomark _)
theorem kx_neD (hK : X.K = K) {k : Nat} (hr : Room k X.A) (ha : PE X a ta) (hb : PE X b tb) : PE X (.Compare a [.NotEq] [b] pos) (tOp (rNeD K) ta tb) := by subst hK; exact pe_cmpR (op_neD hr.units) ha hb (nomark _)
theorem kt_in (hK : X.K = K) (ha : PE X a ta) (hb : PE X b tb) (hm : behindInMarks .In b = false) : PT X (.Compare a [.In] [b] pos) (tTest (tOp (rIn K false) ta tb)) := by subst hK; exact pt_cmpR op_in_seq ha hb hm
theorem kt_ni (hK : X.K = K) (ha : PE X a ta) (hb : PE X b tb) (hm : behindInMarks .NotIn b = false) : PT X (.Compare a [.NotIn] [b] pos) (tTest (tOp (rIn K true) ta tb)) := by subst hK; exact pt_cmpR op_notIn_seq ha hb hm
theorem kt_eqD (hK : X.K = K) {k : Nat} (hr : Room k X.A) (ha : PE X a ta) (hb : PE X b tb) : PT X (.Compare a [.Eq] [b] pos) (tTest (tOp (rEqD K) ta tb)) := by subst hK; exact pt_cmpR (op_eqD hr.units) ha hb (nomark _)
theorem kt_neD (hK : X.K = K) {k : Nat} (hr : Room k X.A) (ha : PE X a ta) (hb : PE X b tb) : PT X (.Compare a [.NotEq] [b] pos) (tTest (tOp (rNeD K) ta tb)) := by subst hK; exact pt_cmpR (op_neD hr.units) ha hb (nomark _)
theorem kt_truth (hK : X.K = K) (ha : PE X a ta) (he : ∀ whole, isTrue a X.env whole = (do let v ← whole; standAt a.pos; holding [v] (truthy v))) : PT X a (fun σ H Q => ta σ H fun x H' => ∃ k, TruV K x H' k ∧ Q k H') := by subst hK; exact pt_truth ha he
theorem kx_slice (hK : X.K = K) {lo hi : Option Expr} {tl th : TO} (ha : PE X a ta) (hl : PO X lo tl) (hu : PO X hi th) : PE X (.Subscript a (.Slice lo hi none p2) pos) (tSl (rSlL K) ta tl th) := by subst hK; exact pe_slice sl_list ha hl hu
theorem kx_rev (hK : X.K = K) {k : Nat} {p1 p3 : Pos} (ha : PE X a ta) : PE X (.Subscript a (.Slice none none (some (.UnaryOp .USub (.Constant (.int 1) k p1) p2)) p3) pos) (tRevL K ta) := by subst hK; exact pe_revL ha
theorem kx_len (hK : X.K = K) (hg : Gl X "len") (hm : X.mg "len" = none) (ha : PA X (e :: es) t)
    (he : starEach (e :: es) X.env = (false, eval e X.env) :: starEach es X.env := by rfl) (hpl : (backTo pos (starEach es X.env)).any (·.1) = false := by rfl) : PE X (.Call (.Name "len" p) (e :: es) [] pos) (tCB (fun xs H Q => ∃ p ys, xs = [V.ref p] ∧ (SqL K H p ys ∨ SqT K H p ys) ∧ Q (.int ys.length) H) t) := by
  subst hK; exact pe_callB call_len_seq hg hm PySem.boot_len ha (by decide) (by decide) he hpl
theorem kx_any (hK : X.K = K) (hc : X.calm = true) (hg : Gl X "any") (hm : X.mg "any" = none) (ha : PA X (e :: es) t)
    (he : starEach (e :: es) X.env = (false, eval e X.env) :: starEach es X.env := by rfl) (hpl : (backTo pos (starEach es X.env)).any (·.1) = false := by rfl) : PE X (.Call (.Name "any" p) (e :: es) [] pos) (tCB (rAny K) t) := by
  subst hK; exact pe_callB (cr_any hc) hg hm (by decide +kernel) ha (by decide) (by decide) he hpl
theorem kx_all (hK : X.K = K) (hc : X.calm = true) (hg : Gl X "all") (hm : X.mg "all" = none) (ha : PA X (e :: es) t)
    (he : starEach (e :: es) X.env = (false, eval e X.env) :: starEach es X.env := by rfl) (hpl : (backTo pos (starEach es X.env)).any (·.1) = false := by rfl) : PE X (.Call (.Name "all" p) (e :: es) [] pos) (tCB (rAll K) t) := by
  subst hK; exact pe_callB (cr_all hc) hg hm (by decide +kernel) ha (by decide) (by decide) he hpl
theorem kx_sum (hK : X.K = K) (hc : X.calm = true) (hg : Gl X "sum") (hm : X.mg "sum" = none) (ha : PA X (e :: es) t)
    (he : starEach (e :: es) X.env = (false, eval e X.env) :: starEach es X.env := by rfl) (hpl : (backTo pos (starEach es X.env)).any (·.1) = false := by rfl) : PE X (.Call (.Name "sum" p) (e :: es) [] pos) (tCB (rSum K) t) := by
  subst hK; exact pe_callB (cr_sum hc) hg hm (by decide +kernel) ha (by decide) (by decide) he hpl
theorem kx_isi (hK : X.K = K) (hg : Gl X "isinstance") (hm : X.mg "isinstance" = none) (ha : PA X (e :: es) t)
    (he : starEach (e :: es) X.env = (false, eval e X.env) :: starEach es X.env := by rfl) (hpl : (backTo pos (starEach es X.env)).any (·.1) = false := by rfl) : PE X (.Call (.Name "isinstance" p) (e :: es) [] pos) (tCB (rIsi K) t) := by
  subst hK; exact pe_callB call_isi hg hm (by decide +kernel) ha (by decide) (by decide) he hpl
theorem kx_list (hK : X.K = K) (hg : Gl X "list") (hm : X.mg "list" = none) (ha : PA X (e :: es) t)
    (he : starEach (e :: es) X.env = (false, eval e X.env) :: starEach es X.env := by rfl) (hpl : (backTo pos (starEach es X.env)).any (·.1) = false := by rfl) : PE X (.Call (.Name "list" p) (e :: es) [] pos) (tCB (fun xs H Q => ∃ p ys, xs = [V.ref p] ∧ (SqL K H p ys ∨ SqT K H p ys) ∧ ∀ l, H l = none → Q (.ref l) (upd H l (.lst ys))) t) := by
  subst hK; exact pe_callTy call_list_of hg hm (by decide +kernel) ha (by decide) (by decide) he hpl
theorem kx_append (hK : X.K = K) (ho : PE X a ta) (ha : PA X (e :: es) t)
    (hbase : attributeBase a "append" X.env (eval a X.env) = eval a X.env := by rfl)
    (hfew : ((backTo cpos (starEach (e :: es) X.env)).all (fun x => !x.1) && (backToKw cpos (keywordEach [] X.env)).all (fun x => x.1.isSome)
      && decide ((e :: es).length + ([] : List Keyword).length + (if ([] : List Keyword).isEmpty then 0 else 1) < 30)) = true := by rfl)
    (hline : (apos.endLine == cpos.line) = true := by rfl) (hs : starEach (e :: es) X.env = (false, eval e X.env) :: starEach es X.env := by rfl) (hplain : (backTo cpos (starEach es X.env)).any (·.1) = false := by rfl) :
    PE X (.Call (.Attribute a "append" apos) (e :: es) [] cpos) (tBM K "list" rAppend ta t) := by
  subst hK; exact pe_bm PySem.F.plainAttrs_list PySem.F.slot_list_append PySem.F.type_list_append mt_append ho ha hbase hfew hline hs hplain
theorem kx_index (hK : X.K = K) (ho : PE X a ta) (ha : PA X (e :: es) t)
    (hbase : attributeBase a "index" X.env (eval a X.env) = eval a X.env := by rfl)
    (hfew : ((backTo cpos (starEach (e :: es) X.env)).all (fun x => !x.1) && (backToKw cpos (keywordEach [] X.env)).all (fun x => x.1.isSome)
      && decide ((e :: es).length + ([] : List Keyword).length + (if ([] : List Keyword).isEmpty then 0 else 1) < 30)) = true := by rfl)
    (hline : (apos.endLine == cpos.line) = true := by rfl) (hs : starEach (e :: es) X.env = (false, eval e X.env) :: starEach es X.env := by rfl) (hplain : (backTo cpos (starEach es X.env)).any (·.1) = false := by rfl) :
    PE X (.Call (.Attribute a "index" apos) (e :: es) [] cpos) (tBM K "list" (rIndex K) ta t) := by
  subst hK; exact pe_bm PySem.F.plainAttrs_list PySem.F.slot_list_index PySem.F.type_list_index mt_index ho ha hbase hfew hline hs hplain
theorem kx_pop (hK : X.K = K) (ho : PE X a ta) (hbase : attributeBase a "pop" X.env (eval a X.env) = eval a X.env := by rfl) (hline : (apos.endLine == cpos.line) = true := by rfl) : PE X (.Call (.Attribute a "pop" apos) [] [] cpos) (tBM0 K "list" rPop ta) := by
  subst hK; exact pe_bm0 PySem.F.plainAttrs_list PySem.F.slot_list_pop PySem.F.type_list_pop mt_pop ho hbase hline
theorem ki_list (hK : X.K = K) (hl : PE X a ta) : PI X tg a (iList K ta) := by subst hK; exact pi_list hl
theorem ki_enum (hK : X.K = K) (hg : Gl X "enumerate") (hm : X.mg "enumerate" = none) (ha : PA X [e] t) (hs : starEach [e] X.env = [(false, eval e X.env)] := by rfl) : PI X (.Tuple elts kk tpos) (.Call (.Name "enumerate" p) [e] [] pos) (iEnum K t) := by
  subst hK; exact pi_enum hg hm ha hs
theorem ki_zip (hK : X.K = K) {e2 : Expr} (hg : Gl X "zip") (hm : X.mg "zip" = none) (ha : PA X [e, e2] t)
    (hs : starEach [e, e2] X.env = (false, eval e X.env) :: starEach [e2] X.env := by rfl) (hpl : (backTo pos (starEach [e2] X.env)).any (·.1) = false := by rfl) : PI X (.Tuple elts kk tpos) (.Call (.Name "zip" p) [e, e2] [] pos) (iZip K t) := by
  subst hK; exact pi_zip hg hm ha hs hpl
theorem kg_tup (hK : X.K = K) {k : Nat} {g : TGs} {n : Nat} (hc : X.calm = true) (h : PGs X es g) (hn : (assignEach es X.env).length = n := by rfl) (hst : (assignEach es X.env).findIdx? (·.1) = none := by rfl) : PG X (.Tuple es k pos) (gTup K n g) := by
  subst hK; exact pg_tup hc h hn hst
theorem kt_niS {w : World} (hw : X.w = w) (ha : PE X a ta) (hb : PE X b tb) (hm : behindInMarks .NotIn b = false) : PT X (.Compare a [.NotIn] [b] pos) (tTest (tOp (rSNotIn w) ta tb)) := by subst hw; exact pt_cmpR or_snotin ha hb hm
theorem kx_sadd {w : World} (hw : X.w = w) (ho : PE X a ta) (ha : PA X (e :: es) t)
    (hbase : attributeBase a "add" X.env (eval a X.env) = eval a X.env := by rfl)
    (hfew : ((backTo cpos (starEach (e :: es) X.env)).all (fun x => !x.1) && (backToKw cpos (keywordEach [] X.env)).all (fun x => x.1.isSome)
      && decide ((e :: es).length + ([] : List Keyword).length + (if ([] : List Keyword).isEmpty then 0 else 1) < 30)) = true := by rfl)
    (hline : (apos.endLine == cpos.line) = true := by rfl) (hs : starEach (e :: es) X.env = (false, eval e X.env) :: starEach es X.env := by rfl) (hplain : (backTo cpos (starEach es X.env)).any (·.1) = false := by rfl) :
    PE X (.Call (.Attribute a "add" apos) (e :: es) [] cpos) (tSAdd w ta t) := by
  subst hw; exact pe_sadd ho ha hbase hfew hline hs hplain
theorem kx_sorted {w : World} (hw : X.w = w) (hc : X.calm = true) (hg : Gl X "sorted") (hm : X.mg "sorted" = none) (ha : PA X (e :: es) t)
    (he : starEach (e :: es) X.env = (false, eval e X.env) :: starEach es X.env := by rfl) (hpl : (backTo pos (starEach es X.env)).any (·.1) = false := by rfl) : PE X (.Call (.Name "sorted" p) (e :: es) [] pos) (tCB (rSortedSet w) t) := by
  subst hw; exact pe_callB (cr_sortedSet hc) hg hm (by decide +kernel) ha (by decide) (by decide) he hpl
theorem newSet_led {P : Program} {w : World} {A : Around} {E : Value → Shared → Prop} {s : Shared} {Q : Value → Shared → Prop}
    (h : Q (.ref s.heap.objs.size) { s with heap := s.heap.push { cls := .type "set", dict := none, data := .set #[] 0 (.fresh 0 0 (!w.params.followText "set-order")) } }) : wpAny (model P w) A (newSet (.type "set")) Q E s := by
  unfold newSet setsByText
  refine wpAny_bind (wpAny_bind (wpAny_askSetting (wpAny_pure ?_)))
  dsimp only
  simp only [newObj]
  exact wpAny_bind (wpAny_alloc (wpAny_pure h))
/-- {e} -/
theorem kx_set1 {w : World} (hw : X.w = w) (hcd : PySem.W.kdsCode X.K X.env.code = true) (he : PE X e te) (hp : starEach [e] X.env = [(false, eval e X.env)] := by rfl) : PE X (.Set [e] 0 pos) (tSet1 w te) := by
  subst hw
  refine ⟨fun pins s σ H Q I h => ?_⟩
  rw [arm_eval_Set]
  refine wpAny_bind (wpAny_standAt (wpAny_bind (PySem.W.kds_main I.kIn hcd fun b => ?_)))
  rw [hp]
  unfold setDisplay
  have hroad : displayRoad 0 [e] = .oneByOne := rfl
  rw [hroad]
  rw [if_neg (by decide)]
  refine wpAny_bind (newSet_led ?_)
  generalize hs1 : ({ s with heap := s.heap.push { cls := .type "set", dict := none, data := .set #[] 0 (.fresh 0 0 (!X.w.params.followText "set-order")) } } : Shared) = s1
  have I1 : Inv X pins σ (upd H s.heap.objs.size (SetO X.w s.heap.objs.size (fun _ => false) 0)) s1 := by
    rw [← hs1]
    exact I.laid (t' := s.toks) (fun b u q => Heap.get?_push_of_some _ q) (Nat.le_refl _) (setO_new (setR_fresh X.w))
  have h1 := h s.heap.objs.size (I.hok.fresh (Nat.le_refl _))
  generalize s.heap.objs.size = p at I1 h1 ⊢
  dsimp only [List.map, List.length, List.findIdx?, List.findIdx?.go, List.take, List.drop, Option.getD]
  simp only [Nat.zero_add, show ¬ (1 > 30) by decide, ↓reduceIte, Bool.false_eq_true, List.take_succ_cons, List.take_zero, List.drop_succ_cons, List.drop_nil, List.map_cons, List.map_nil, List.forIn_nil, evalAll]
  refine wpAny_bind (wpAny_holding (wpAny_bind (wpAny_bind (wpAny_bind (thn (he.run pins s1 σ _ _ I1 h1) fun v s2 z2 => ?_)))))
  obtain ⟨x, H2, I2, rx, k, rfl, hp2, q⟩ := z2
  obtain ⟨tk, rfl⟩ := rx
  refine wpAny_bind (wpAny_standAt (wpAny_pure ?_))
  refine wpAny_bind (wpAny_holding (wpAny_pure (wpAny_pure ?_)))
  refine wpAny_bind (wpAny_holding ?_)
  rw [List.forIn_cons]
  have R := setO_get I2 hp2
  refine wpAny_bind (wpAny_bind (wpAny_bind ?_))
  unfold setAdd
  refine wpAny_holding (wpAny_bind ((intKind X.prog X.w).pyHash (intKind_is _ _ k tk) ?_))
  refine setR_add_hashed (s := { s2 with toks := s2.toks + 1 }) R (by decide) fun h' sb new => ?_
  refine wpAny_pure ?_
  dsimp only
  rw [List.forIn_nil]
  refine wpAny_pure ?_
  rw [if_neg (by decide)]
  refine wpAny_pure (wpAny_bind (wpAny_pure (wpAny_pure (wpAny_pure ?_))))
  have hu : ∃ u, h'.get? p = some u := by
    have ⟨o, _, _, _, ho, _⟩ := new
    exact ⟨o, ho⟩
  have new' : SetR X.w h' p (fun j => decide (j = k)) 1 := by
    have n2 := new
    rw [if_neg (by decide)] at n2
    exact n2.congr fun j => by simp
  exact ⟨.ref p, _, I2.write (e := p) (t' := s2.toks + 1) (by rw [hp2]; trivial) (.inl rfl) (fun b u hb hu => (sb.2 b hb).trans hu) hu (setO_new new'), rfl, q⟩
end
end G
end
section
set_option linter.all false
/-! games as plain data; nothing of the model -/
namespace G
inductive Pl where
  | draw (bs : List (Rat × Nat))
  | ours (ts : List Nat)
  | theirs (ts : List Nat)
  | reward (r : Rat) (x : Nat)
  | fin
  | lose
inductive Sd where
  | us | them
  deriving DecidableEq
abbrev Game := List Pl
def pat (g : Game) (i : Nat) : Pl := g.getD i .lose
namespace Pl
def tgs : Pl → List Nat
  | .draw bs => bs.map (·.2)
  | .ours ts => ts
  | .theirs ts => ts
  | .reward _ x => [x]
  | .fin => []
  | .lose => []
/-- the branches of a chain's place -/
def br : Pl → List (Rat × Nat)
  | .draw bs => bs
  | .reward _ x => [(1, x)]
  | _ => []
def isFin : Pl → Bool
  | .fin => true
  | _ => false
def isLose : Pl → Bool
  | .lose => true
  | _ => false
def side : Pl → Option Sd
  | .ours _ => some .us
  | .theirs _ => some .them
  | _ => none
end Pl
/-- the place with the choice put in, where it is of the side -/
def putP (s : Sd) (p : Pl) (o : Option Nat) : Pl := if p.side = some s then .draw [(1, p.tgs.getD (o.getD 0) 0)] else p
abbrev Strat := List (Option Nat)
def put (s : Sd) (g : Game) (st : Strat) : Game := (List.range g.length).map fun i => putP s (pat g i) (st.getD i none)
/-- a strategy of the side -/
structure StOk (s : Sd) (g : Game) (st : Strat) : Prop where
  len : st.length = g.length
  yes : ∀ i, i < g.length → (pat g i).side = some s → ∃ b, st[i]? = some (some b) ∧ b < (pat g i).tgs.length
  no : ∀ i, i < g.length → (pat g i).side ≠ some s → st[i]? = some none
/-- a common denominator of the chances -/
def Den (q : Nat) (bs : List (Rat × Nat)) : Prop := 0 < q ∧ q ≤ 18 ∧ ∀ b ∈ bs, ∃ k : Nat, b.1 * (q : Rat) = (k : Rat)
def POk (n : Nat) : Pl → Prop
  | .draw bs => bs ≠ [] ∧ bs.length ≤ 6 ∧ (∀ b ∈ bs, 0 < b.1 ∧ b.2 < n) ∧ (bs.map (·.1)).sum = 1 ∧ ∃ q, Den q bs
  | .ours ts => ts ≠ [] ∧ ts.length ≤ 6 ∧ ∀ t ∈ ts, t < n
  | .theirs ts => ts ≠ [] ∧ ts.length ≤ 6 ∧ ∀ t ∈ ts, t < n
  | .reward r x => (r = 0 ∨ r = 1 ∨ r = 2) ∧ x < n
  | .fin => True
  | .lose => True
structure GOk (g : Game) : Prop where
  pos : 1 ≤ g.length
  len : g.length ≤ 12
  pl : ∀ i, i < g.length → POk g.length (pat g i)
/-- no place of either side -/
def Chain (g : Game) : Prop := ∀ i, (pat g i).side = none
/-- what is reached from a place -/
inductive Reach (g : Game) : Nat → Nat → Prop
  | refl (p : Nat) : Reach g p p
  | step {p t x : Nat} : t ∈ (pat g p).tgs → Reach g t x → Reach g p x
/-- a finish is reached -/
inductive Rf (g : Game) : Nat → Prop
  | fin {p : Nat} : (pat g p).isFin = true → Rf g p
  | step {p t : Nat} : t ∈ (pat g p).tgs → Rf g t → Rf g p
/-- the mean of the numbers at a place's branches -/
def mean (bs : List (Rat × Nat)) (y : Nat → Rat) : Rat := (bs.map fun b => b.1 * y b.2).sum
/-- the chances of a chain -/
structure IsVal (c : Game) (v : Nat → Rat) : Prop where
  one : ∀ i, i < c.length → (pat c i).isFin = true → v i = 1
  zero : ∀ i, i < c.length → ¬ Rf c i → v i = 0
  avg : ∀ i, i < c.length → Rf c i → (pat c i).isFin = false → v i = mean (pat c i).br v
/-- elimination of the p-th unknown: x_i = sum of G i k x_k -/
def elim (p : Nat) (G : Nat → Nat → Rat) : Nat → Nat → Rat := fun i k => if k = p then 0 else G i k + G i p * (G p k / (1 - G p p))
def stage (G : Nat → Nat → Rat) : Nat → Nat → Nat → Rat
  | 0 => G
  | t + 1 => elim t (stage G t)
def kd (i k : Nat) : Rat := if i = k then 1 else 0
end G
end
section
set_option Elab.async false
set_option linter.all false
set_option maxRecDepth 100000
set_option maxHeartbeats 4000000
/-! games as data of the model -/
namespace G
open PySem PySem.Spec PyProof.Rows L2
def eN (n : Nat) : PyData := .int (n : Int)
def eB (b : Rat × Nat) : PyData := .tuple [num b.1, eN b.2]
def kindS : Pl → Str
  | .draw _ => "draw"
  | .ours _ => "ours"
  | .theirs _ => "theirs"
  | .reward _ _ => "reward"
  | .fin => "finish"
  | .lose => "lose"
def sdS : Sd → Str
  | .us => "ours"
  | .them => "theirs"
def ePl : Pl → PyData
  | .draw bs => .tuple [.str "draw", .list (bs.map eB)]
  | .ours ts => .tuple [.str "ours", .list (ts.map eN)]
  | .theirs ts => .tuple [.str "theirs", .list (ts.map eN)]
  | .reward r x => .tuple [.str "reward", num r, eN x]
  | .fin => .tuple [.str "finish"]
  | .lose => .tuple [.str "lose"]
def eG (g : Game) : PyData := .list (g.map ePl)
def eO : Option Nat → PyData
  | none => .none
  | some b => eN b
def eSt (s : Strat) : PyData := .list (s.map eO)
def eNs (l : List Nat) : PyData := .list (l.map eN)
def eQs (l : List Rat) : PyData := .list (l.map num)
theorem pat_get {g : Game} {i : Nat} (h : i < g.length) : g[i]? = some (pat g i) := by
  unfold pat
  rw [List.getD_eq_getElem?_getD, List.getElem?_eq_getElem h]
  rfl
theorem eNs_int (l : List Nat) : (l.map eN) = (l.map fun n => ((n : Nat) : Int)).map PyData.int := by rw [List.map_map]; rfl
theorem mem_cast {n : Nat} {l : List Nat} : ((n : Int) ∈ l.map fun n => ((n : Nat) : Int)) ↔ n ∈ l := by
  rw [List.mem_map]
  constructor
  · rintro ⟨a, h, e⟩
    have : a = n := by omega
    exact this ▸ h
  · exact fun h => ⟨n, h, rfl⟩
def Pl.is_draw : Pl → Bool
  | .draw _ => true
  | _ => false
def Pl.is_ours : Pl → Bool
  | .ours _ => true
  | _ => false
def Pl.is_theirs : Pl → Bool
  | .theirs _ => true
  | _ => false
def Pl.is_reward : Pl → Bool
  | .reward _ _ => true
  | _ => false
def Pl.is_fin : Pl → Bool
  | .fin => true
  | _ => false
def Pl.is_lose : Pl → Bool
  | .lose => true
  | _ => false
theorem str_draw_draw : decide (("draw" : Str) = "draw") = true := by decide +kernel
theorem str_draw_ours : decide (("draw" : Str) = "ours") = false := by decide +kernel
theorem str_draw_theirs : decide (("draw" : Str) = "theirs") = false := by decide +kernel
theorem str_draw_reward : decide (("draw" : Str) = "reward") = false := by decide +kernel
theorem str_draw_finish : decide (("draw" : Str) = "finish") = false := by decide +kernel
theorem str_draw_lose : decide (("draw" : Str) = "lose") = false := by decide +kernel
theorem str_ours_draw : decide (("ours" : Str) = "draw") = false := by decide +kernel
theorem str_ours_ours : decide (("ours" : Str) = "ours") = true := by decide +kernel
theorem str_ours_theirs : decide (("ours" : Str) = "theirs") = false := by decide +kernel
theorem str_ours_reward : decide (("ours" : Str) = "reward") = false := by decide +kernel
theorem str_ours_finish : decide (("ours" : Str) = "finish") = false := by decide +kernel
theorem str_ours_lose : decide (("ours" : Str) = "lose") = false := by decide +kernel
theorem str_theirs_draw : decide (("theirs" : Str) = "draw") = false := by decide +kernel
theorem str_theirs_ours : decide (("theirs" : Str) = "ours") = false := by decide +kernel
theorem str_theirs_theirs : decide (("theirs" : Str) = "theirs") = true := by decide +kernel
theorem str_theirs_reward : decide (("theirs" : Str) = "reward") = false := by decide +kernel
theorem str_theirs_finish : decide (("theirs" : Str) = "finish") = false := by decide +kernel
theorem str_theirs_lose : decide (("theirs" : Str) = "lose") = false := by decide +kernel
theorem str_reward_draw : decide (("reward" : Str) = "draw") = false := by decide +kernel
theorem str_reward_ours : decide (("reward" : Str) = "ours") = false := by decide +kernel
theorem str_reward_theirs : decide (("reward" : Str) = "theirs") = false := by decide +kernel
theorem str_reward_reward : decide (("reward" : Str) = "reward") = true := by decide +kernel
theorem str_reward_finish : decide (("reward" : Str) = "finish") = false := by decide +kernel
theorem str_reward_lose : decide (("reward" : Str) = "lose") = false := by decide +kernel
theorem str_finish_draw : decide (("finish" : Str) = "draw") = false := by decide +kernel
theorem str_finish_ours : decide (("finish" : Str) = "ours") = false := by decide +kernel
theorem str_finish_theirs : decide (("finish" : Str) = "theirs") = false := by decide +kernel
theorem str_finish_reward : decide (("finish" : Str) = "reward") = false := by decide +kernel
theorem str_finish_finish : decide (("finish" : Str) = "finish") = true := by decide +kernel
theorem str_finish_lose : decide (("finish" : Str) = "lose") = false := by decide +kernel
theorem str_lose_draw : decide (("lose" : Str) = "draw") = false := by decide +kernel
theorem str_lose_ours : decide (("lose" : Str) = "ours") = false := by decide +kernel
theorem str_lose_theirs : decide (("lose" : Str) = "theirs") = false := by decide +kernel
theorem str_lose_reward : decide (("lose" : Str) = "reward") = false := by decide +kernel
theorem str_lose_finish : decide (("lose" : Str) = "finish") = false := by decide +kernel
theorem str_lose_lose : decide (("lose" : Str) = "lose") = true := by decide +kernel
theorem kd_draw {p : Pl} : decide (kindS p = "draw") = p.is_draw := by
  cases p
  · exact str_draw_draw
  · exact str_ours_draw
  · exact str_theirs_draw
  · exact str_reward_draw
  · exact str_finish_draw
  · exact str_lose_draw
theorem kd_ours {p : Pl} : decide (kindS p = "ours") = p.is_ours := by
  cases p
  · exact str_draw_ours
  · exact str_ours_ours
  · exact str_theirs_ours
  · exact str_reward_ours
  · exact str_finish_ours
  · exact str_lose_ours
theorem kd_theirs {p : Pl} : decide (kindS p = "theirs") = p.is_theirs := by
  cases p
  · exact str_draw_theirs
  · exact str_ours_theirs
  · exact str_theirs_theirs
  · exact str_reward_theirs
  · exact str_finish_theirs
  · exact str_lose_theirs
theorem kd_reward {p : Pl} : decide (kindS p = "reward") = p.is_reward := by
  cases p
  · exact str_draw_reward
  · exact str_ours_reward
  · exact str_theirs_reward
  · exact str_reward_reward
  · exact str_finish_reward
  · exact str_lose_reward
theorem kd_fin {p : Pl} : decide (kindS p = "finish") = p.is_fin := by
  cases p
  · exact str_draw_finish
  · exact str_ours_finish
  · exact str_theirs_finish
  · exact str_reward_finish
  · exact str_finish_finish
  · exact str_lose_finish
theorem kd_lose {p : Pl} : decide (kindS p = "lose") = p.is_lose := by
  cases p
  · exact str_draw_lose
  · exact str_ours_lose
  · exact str_theirs_lose
  · exact str_reward_lose
  · exact str_finish_lose
  · exact str_lose_lose
theorem kind_side {p : Pl} {s : Sd} : decide (kindS p = sdS s) = decide (p.side = some s) := by
  cases s with
  | us =>
    show decide (kindS p = "ours") = _
    rw [kd_ours]
    cases p <;> rfl
  | them =>
    show decide (kindS p = "theirs") = _
    rw [kd_theirs]
    cases p <;> rfl
section
variable {K : PySem.W.Frag} {w : World} {ρ : List Sl} {ta tb te : TE} {d d0 d1 d2 : PyData} {ds : List PyData}
theorem ev_t0 (ha : EvD K w ta ρ (.tuple (d :: ds))) : EvD K w (tOp (rIxT K) ta (tC (.int 0))) ρ d := ev_ixTn (k := 0) ha ev_int rfl
theorem ev_t1 (ha : EvD K w ta ρ (.tuple (d0 :: d :: ds))) : EvD K w (tOp (rIxT K) ta (tC (.int 1))) ρ d := ev_ixTn (k := 1) ha ev_int rfl
theorem ev_t2 (ha : EvD K w ta ρ (.tuple (d0 :: d1 :: d :: ds))) : EvD K w (tOp (rIxT K) ta (tC (.int 2))) ρ d := ev_ixTn (k := 2) ha ev_int rfl
theorem ev_q0 {q : Rat} (ha : EvD K w ta ρ (num q)) : EvD K w (tOp (rIxT K) ta (tC (.int 0))) ρ (.int q.num) := ev_t0 ha
theorem ev_q1 {q : Rat} (ha : EvD K w ta ρ (num q)) : EvD K w (tOp (rIxT K) ta (tC (.int 1))) ρ (.int (q.den : Int)) := ev_t1 ha
/-- an item of a list of encoded things -/
theorem ev_ixM {α : Type} {enc : α → PyData} {xs : List α} {k : Nat} {x : α} (ha : EvL K w ta ρ (xs.map enc)) (hb : EvD K w tb ρ (eN k)) (hx : xs[k]? = some x) : EvD K w (tOp (rIxL K) ta tb) ρ (enc x) :=
  ev_ixLn (k := k) ha hb (by rw [List.getElem?_map, hx]; rfl)
theorem ev_ixG {g : Game} {k : Nat} (ha : EvD K w ta ρ (eG g)) (hb : EvD K w tb ρ (eN k)) (hk : k < g.length) : EvD K w (tOp (rIxL K) ta tb) ρ (ePl (pat g k)) :=
  ev_ixM (enc := ePl) (EvD.l ha) hb (pat_get hk)
/-- a place's word -/
theorem ev_kind {p : Pl} (ha : EvD K w ta ρ (ePl p)) : EvD K w (tOp (rIxT K) ta (tC (.int 0))) ρ (.str (kindS p)) := by
  cases p <;> exact ev_t0 ha
end
end G
end
section
set_option Elab.async false
set_option linter.all false
set_option maxRecDepth 100000
set_option maxHeartbeats 4000000
/-! walks: numbers -/
namespace G
open PySem PySem.Spec PyProof.Rows L2
theorem log2_of {n b : Nat} (h : n < 2 ^ b) (hb : 0 < b) : n.log2 < b := PySem.Flt.log2_lt_of hb h
theorem Sm.mono {a b : Nat} {q : Rat} (h : Sm a q) (l : a ≤ b) : Sm b q := ⟨Nat.lt_of_lt_of_le h.1 (Nat.pow_le_pow_right (by decide) l), Nat.lt_of_lt_of_le h.2 (Nat.pow_le_pow_right (by decide) l)⟩
/-- a place, kept as such -/
theorem ixT0 {ds : List PyData} {d : PyData} : (d :: ds)[0]? = some d := rfl
section
variable {Pg : Program} {w : World} {K : PySem.W.Frag} {mg : Str → Option Value} {base : Heap} {aN aO : Addr}
abbrev s_number : Stmt := topS 4
theorem sc_number : FnScope ["n", "d", "common"] ["n", "d"] (defScope s_number) := ⟨rfl, rfl, rfl, by decide +kernel, rfl, by decide +kernel, by decide +kernel⟩
def S_number : List Ar → (PyData → Prop) → Prop := fun as R => ∃ n d : Int, as = [.dat (.int n), .dat (.int d)] ∧ d ≠ 0 ∧ d.natAbs < 2 ^ 9000 ∧ R (num (Rat.divInt n d))
theorem num_div_pos {n d : Int} (h : 0 < d) : num (Rat.divInt n d) = .tuple [.int (n / ((Nat.gcd n.natAbs d.natAbs : Nat) : Int)), .int (d / ((Nat.gcd n.natAbs d.natAbs : Nat) : Int))] := by
  unfold num
  rw [Rat.num_divInt, Rat.den_divInt, if_neg (by omega), Int.sign_eq_one_of_pos h, Int.one_mul]
  have e : d.gcd n = Nat.gcd n.natAbs d.natAbs := by rw [Int.gcd_comm]; rfl
  rw [e, Int.natCast_ediv, Int.natAbs_of_nonneg (by omega)]
theorem ok_number {f : Addr} {fd : FuncData} (T : Tx K mg aN aO) (F : Fun K "number" "number" s_number f fd) : FnOk Pg w K mg base CX0 1 f fd ["n", "d"] (spD K S_number) := by
  refine fok F sc_number (fun as R h => by obtain ⟨n, d, rfl, _⟩ := h; rfl) fun cdv A outer s H E hr => ?_
  have nd := sc_number.nd
  refine ⟨_, (pss_cons (ps_if (pt_cmpR op_lt (pv 1) pe_int (nomark _)) (pss_one (ps_par (i := 0) (j := 1) (by rfl) nd rfl rfl (by decide) rfl rfl (pa_cons (pe_un un_neg (pv 0)) (pa_cons (pe_un un_neg (pv 1)) pa_nil)) (by rfl))) pss_nil)
        (pss_cons (ps_set (i := 2) nd rfl (Or.inl rfl) (pe_callBfun cr_gcd (by rfl) T.gcd (pa_cons (pv 0) (pa_cons (pv 1) pa_nil))))
        (pss_one (ps_ret (pe_tup (pa_cons (pe_op op_fdivW (pv 0) (pv 2)) (pa_cons (pe_op op_fdivW (pv 1) (pv 2)) pa_nil))))))), fun as R hS => ?_⟩
  obtain ⟨n, d, rfl, hd, hs, hR⟩ := hS
  refine hs_seq_of (fun ρ => ∃ n' d' : Int, 0 < d' ∧ d'.natAbs < 2 ^ 9000 ∧ Rat.divInt n' d' = Rat.divInt n d ∧ ρ = [.dat (.int n'), .dat (.int d'), .any]) (hs_if (eb_test (ev_cmp (ev_var rfl) ev_int)) (fun h => ?_) (fun h => ?_)) fun ρ hρ => ?_
  · have h' : d < 0 := of_decide_eq_true h
    refine hs_par (ea_dat (ev_neg (ev_var rfl)) (ea_dat (ev_neg (ev_var rfl)) ea_nil)) ?_
    exact ⟨-n, -d, by omega, by rw [Int.natAbs_neg]; exact hs, Rat.neg_divInt_neg n d, rfl⟩
  · have h' : ¬ d < 0 := of_decide_eq_false h
    exact hs_next ⟨n, d, by omega, hs, rfl, rfl⟩
  · obtain ⟨n', d', h0, h1, e, rfl⟩ := hρ
    have hg : 0 < ((Nat.gcd n'.natAbs d'.natAbs : Nat) : Int) := by
      have := Nat.gcd_pos_of_pos_right n'.natAbs (show 0 < d'.natAbs by omega)
      omega
    have hc : ∀ i, CDivW i ((Nat.gcd n'.natAbs d'.natAbs : Nat) : Int) := by
      refine fun i => ⟨hg, ?_⟩
      rw [Int.natAbs_natCast]
      refine log2_of (Nat.lt_of_le_of_lt (Nat.le_of_dvd (by omega) (Nat.gcd_dvd_right _ _)) h1) (by decide)
    refine hs_seq (hs_asg (ev_cb (ea_dat (ev_var rfl) (ea_dat (ev_var rfl) ea_nil)) cd_gcd) (hs_ret (ev_tup (ds := [_, _]) (ea_dat (ev_fdivW (ev_var rfl) (ev_var rfl) (hc _)) (ea_dat (ev_fdivW (ev_var rfl) (ev_var rfl) (hc _)) ea_nil)) (Nat.le_of_ble_eq_true rfl)) ?_))
    show R _
    rw [← num_div_pos h0, e]
    exact hR
end
end G
end
section
set_option Elab.async false
set_option linter.all false
set_option maxRecDepth 100000
set_option maxHeartbeats 4000000
/-! walks: numbers, further; games -/
namespace G
open PySem PySem.Spec PyProof.Rows L2
local macro_rules | `(tactic| walk_at "ev") => `(tactic| repeat' (first
  | ((with_reducible refine ev_var ?_); rfl) | ((with_reducible refine EvD.l (ev_var ?_)); rfl) | with_reducible exact ev_int | with_reducible exact ev_str | with_reducible exact ev_bl | with_reducible exact ev_non
  | ((with_reducible refine Tx.evN ?_); assumption) | ((with_reducible refine Tx.evO ?_); assumption)
  | with_reducible exact ea_nil | with_reducible refine ea_dat ?_ ?_
  | with_reducible refine ev_add ?_ ?_ | with_reducible refine ev_sub ?_ ?_ | with_reducible refine ev_mulW ?_ ?_ ?_ | with_reducible refine ev_neg ?_ | with_reducible refine ev_cmp ?_ ?_
  | with_reducible refine ev_q0 ?_ | with_reducible refine ev_q1 ?_ | with_reducible refine ev_kind ?_
  | with_reducible refine eb_test ?_ | with_reducible refine eb_B ?_ | with_reducible refine ev_int1 ?_))
theorem mulSm {i j : Int} (hi : i.natAbs < 2 ^ 4000) (hj : j.natAbs < 2 ^ 4000) : CMulW i j := wide_mul hi hj (by decide) (by decide) (by decide)
theorem lt_pow {a b x y z : Nat} (h1 : a < 2 ^ x) (h2 : b < 2 ^ y) (h : x + y ≤ z) : a * b < 2 ^ z := by
  refine Nat.lt_of_lt_of_le (Nat.mul_lt_mul'' h1 h2) ?_
  rw [← Nat.pow_add]
  exact Nat.pow_le_pow_right (by decide) h
theorem lt9000 {a b : Nat} (h1 : a < 2 ^ 4000) (h2 : b < 2 ^ 4000) : a * b < 2 ^ 9000 := lt_pow h1 h2 (by decide)
section
variable {Pg : Program} {w : World} {K : PySem.W.Frag} {mg : Str → Option Value} {base : Heap} {aN aO : Addr}
/-! compare -/
abbrev s_compare : Stmt := topS 5
theorem sc_compare : FnScope ["a", "b", "left", "right"] ["a", "b"] (defScope s_compare) := ⟨rfl, rfl, rfl, by decide +kernel, rfl, by decide +kernel, by decide +kernel⟩
def cmpQ (a b : Rat) : Int := if a < b then -1 else if b < a then 1 else 0
def S_compare : List Ar → (PyData → Prop) → Prop := fun as R => ∃ a b : Rat, as = [.dat (num a), .dat (num b)] ∧ Sm 4000 a ∧ Sm 4000 b ∧ R (.int (cmpQ a b))
theorem ok_compare {f : Addr} {fd : FuncData} (T : Tx K mg aN aO) (F : Fun K "compare" "compare" s_compare f fd) : FnOk Pg w K mg base CX0 1 f fd ["a", "b"] (spD K S_compare) := by
  refine fok F sc_compare (fun as R h => by obtain ⟨n, d, rfl, _⟩ := h; rfl) fun cdv A outer s H E hr => ?_
  have nd := sc_compare.nd
  refine ⟨_, (pss_cons (ps_par (i := 2) (j := 3) (by rfl) nd rfl rfl (by decide) rfl rfl (pa_cons (pe_op op_mulW (pe_ix ix_tup (pv 0) pe_int (fun _ _ => rfl)) (pe_ix ix_tup (pv 1) pe_int (fun _ _ => rfl))) (pa_cons (pe_op op_mulW (pe_ix ix_tup (pv 1) pe_int (fun _ _ => rfl)) (pe_ix ix_tup (pv 0) pe_int (fun _ _ => rfl))) pa_nil)) (by rfl))
        (pss_cons (ps_if (pt_cmpR op_lt (pv 2) (pv 3) (nomark _)) (pss_one (ps_ret (pe_un un_neg pe_int))) pss_nil)
        (pss_one (ps_ret (pe_callTy call_int1 (by rfl) T.int_ (by decide +kernel) (pa_cons (pe_cmpR op_gt (pv 2) (pv 3) (nomark _)) pa_nil)))))), fun as R hS => ?_⟩
  dsimp only [cxOf, Cx.nox, Cx.wish]
  obtain ⟨a, b, rfl, ha, hb, hR⟩ := hS
  have m1 : CMulW a.num (b.den : Int) := mulSm ha.1 (by rw [Int.natAbs_natCast]; exact hb.2)
  have m2 : CMulW b.num (a.den : Int) := mulSm hb.1 (by rw [Int.natAbs_natCast]; exact ha.2)
  refine hs_seq (hs_par (x := .int (a.num * b.den)) (y := .int (b.num * a.den)) (by walk_at "ev"; exact m1; exact m2) ?_)
  refine hs_seq (hs_if (b := decide (a.num * b.den < b.num * a.den)) (by walk_at "ev") (fun h => ?_) (fun h => hs_next ?_))
  · refine hs_ret (ev_neg ev_int) ?_
    have h1 : a < b := (Rat.lt_iff a b).mpr (of_decide_eq_true h)
    show R _
    unfold cmpQ at hR
    rw [if_pos h1] at hR
    exact hR
  · refine hs_ret (ev_intB (b := decide (b.num * a.den < a.num * b.den)) (by walk_at "ev")) ?_
    have h1 : ¬ a < b := fun z => of_decide_eq_false h ((Rat.lt_iff a b).mp z)
    show R _
    unfold cmpQ at hR
    rw [if_neg h1] at hR
    by_cases h2 : b < a
    · rw [if_pos h2] at hR
      rw [decide_eq_true ((Rat.lt_iff b a).mp h2)]
      exact hR
    · rw [if_neg h2] at hR
      rw [decide_eq_false fun z => h2 ((Rat.lt_iff b a).mpr z)]
      exact hR
/-! plus, minus, times, divided -/
abbrev s_plus : Stmt := topS 6
theorem sc_plus : FnScope ["a", "b"] ["a", "b"] (defScope s_plus) := ⟨rfl, rfl, rfl, by decide +kernel, rfl, by decide +kernel, by decide +kernel⟩
def S_two (op : Rat → Rat → Rat) : List Ar → (PyData → Prop) → Prop := fun as R => ∃ a b : Rat, as = [.dat (num a), .dat (num b)] ∧ Sm 4000 a ∧ Sm 4000 b ∧ R (num (op a b))
theorem den_ne {q : Rat} : (q.den : Int) ≠ 0 := by
  have := q.den_nz
  omega
theorem den_nat {q : Rat} : ((q.den : Nat) : Int).natAbs = q.den := Int.natAbs_natCast _
theorem ok_plus {f : Addr} {fd : FuncData} (T : Tx K mg aN aO) (F : Fun K "plus" "plus" s_plus f fd) (c_number : Cal Pg w K mg base 1 "number" (spD K S_number)) : FnOk Pg w K mg base CX0 2 f fd ["a", "b"] (spD K (S_two (· + ·))) := by
  refine fok F sc_plus (fun as R h => by obtain ⟨n, d, rfl, _⟩ := h; rfl) fun cdv A outer s H E hr => ?_
  have nd := sc_plus.nd
  refine ⟨_, (pss_one (ps_ret (pe_c c_number hr (by decide) (by rfl) (pa_cons (pe_op op_add (pe_op op_mulW (pe_ix ix_tup (pv 0) pe_int (fun _ _ => rfl)) (pe_ix ix_tup (pv 1) pe_int (fun _ _ => rfl))) (pe_op op_mulW (pe_ix ix_tup (pv 1) pe_int (fun _ _ => rfl)) (pe_ix ix_tup (pv 0) pe_int (fun _ _ => rfl)))) (pa_cons (pe_op op_mulW (pe_ix ix_tup (pv 0) pe_int (fun _ _ => rfl)) (pe_ix ix_tup (pv 1) pe_int (fun _ _ => rfl))) pa_nil))))), fun as R hS => ?_⟩
  dsimp only [cxOf, Cx.nox, Cx.wish]
  obtain ⟨a, b, rfl, ha, hb, hR⟩ := hS
  refine hs_ret (ev_call (as := [.dat (.int (a.num * b.den + b.num * a.den)), .dat (.int ((a.den : Int) * b.den))]) (by walk_at "ev"; exact mulSm ha.1 (by rw [den_nat]; exact hb.2); exact mulSm hb.1 (by rw [den_nat]; exact ha.2); exact mulSm (by rw [den_nat]; exact ha.2) (by rw [den_nat]; exact hb.2)) fun R' hR' => ⟨_, _, rfl, Int.mul_ne_zero den_ne den_ne, ?_, hR'⟩) ?_
  · rw [Int.natAbs_mul, den_nat, den_nat]
    exact lt9000 ha.2 hb.2
  · show R _
    rw [← Int.natCast_mul, Rat.divInt_ofNat, ← Rat.add_def']
    exact hR
abbrev s_minus : Stmt := topS 7
theorem sc_minus : FnScope ["a", "b"] ["a", "b"] (defScope s_minus) := ⟨rfl, rfl, rfl, by decide +kernel, rfl, by decide +kernel, by decide +kernel⟩
theorem ok_minus {f : Addr} {fd : FuncData} (T : Tx K mg aN aO) (F : Fun K "minus" "minus" s_minus f fd) (c_number : Cal Pg w K mg base 1 "number" (spD K S_number)) : FnOk Pg w K mg base CX0 2 f fd ["a", "b"] (spD K (S_two (· - ·))) := by
  refine fok F sc_minus (fun as R h => by obtain ⟨n, d, rfl, _⟩ := h; rfl) fun cdv A outer s H E hr => ?_
  have nd := sc_minus.nd
  refine ⟨_, (pss_one (ps_ret (pe_c c_number hr (by decide) (by rfl) (pa_cons (pe_op op_sub (pe_op op_mulW (pe_ix ix_tup (pv 0) pe_int (fun _ _ => rfl)) (pe_ix ix_tup (pv 1) pe_int (fun _ _ => rfl))) (pe_op op_mulW (pe_ix ix_tup (pv 1) pe_int (fun _ _ => rfl)) (pe_ix ix_tup (pv 0) pe_int (fun _ _ => rfl)))) (pa_cons (pe_op op_mulW (pe_ix ix_tup (pv 0) pe_int (fun _ _ => rfl)) (pe_ix ix_tup (pv 1) pe_int (fun _ _ => rfl))) pa_nil))))), fun as R hS => ?_⟩
  dsimp only [cxOf, Cx.nox, Cx.wish]
  obtain ⟨a, b, rfl, ha, hb, hR⟩ := hS
  refine hs_ret (ev_call (as := [.dat (.int (a.num * b.den - b.num * a.den)), .dat (.int ((a.den : Int) * b.den))]) (by walk_at "ev"; exact mulSm ha.1 (by rw [den_nat]; exact hb.2); exact mulSm hb.1 (by rw [den_nat]; exact ha.2); exact mulSm (by rw [den_nat]; exact ha.2) (by rw [den_nat]; exact hb.2)) fun R' hR' => ⟨_, _, rfl, Int.mul_ne_zero den_ne den_ne, ?_, hR'⟩) ?_
  · rw [Int.natAbs_mul, den_nat, den_nat]
    exact lt9000 ha.2 hb.2
  · show R _
    rw [← Int.natCast_mul, Rat.divInt_ofNat, ← Rat.sub_def']
    exact hR
abbrev s_times : Stmt := topS 8
theorem sc_times : FnScope ["a", "b"] ["a", "b"] (defScope s_times) := ⟨rfl, rfl, rfl, by decide +kernel, rfl, by decide +kernel, by decide +kernel⟩
theorem ok_times {f : Addr} {fd : FuncData} (T : Tx K mg aN aO) (F : Fun K "times" "times" s_times f fd) (c_number : Cal Pg w K mg base 1 "number" (spD K S_number)) : FnOk Pg w K mg base CX0 2 f fd ["a", "b"] (spD K (S_two (· * ·))) := by
  refine fok F sc_times (fun as R h => by obtain ⟨n, d, rfl, _⟩ := h; rfl) fun cdv A outer s H E hr => ?_
  have nd := sc_times.nd
  refine ⟨_, (pss_one (ps_ret (pe_c c_number hr (by decide) (by rfl) (pa_cons (pe_op op_mulW (pe_ix ix_tup (pv 0) pe_int (fun _ _ => rfl)) (pe_ix ix_tup (pv 1) pe_int (fun _ _ => rfl))) (pa_cons (pe_op op_mulW (pe_ix ix_tup (pv 0) pe_int (fun _ _ => rfl)) (pe_ix ix_tup (pv 1) pe_int (fun _ _ => rfl))) pa_nil))))), fun as R hS => ?_⟩
  dsimp only [cxOf, Cx.nox, Cx.wish]
  obtain ⟨a, b, rfl, ha, hb, hR⟩ := hS
  refine hs_ret (ev_call (as := [.dat (.int (a.num * b.num)), .dat (.int ((a.den : Int) * b.den))]) (by walk_at "ev"; exact mulSm ha.1 hb.1; exact mulSm (by rw [den_nat]; exact ha.2) (by rw [den_nat]; exact hb.2)) fun R' hR' => ⟨_, _, rfl, Int.mul_ne_zero den_ne den_ne, ?_, hR'⟩) ?_
  · rw [Int.natAbs_mul, den_nat, den_nat]
    exact lt9000 ha.2 hb.2
  · show R _
    rw [← Int.natCast_mul, Rat.divInt_ofNat, ← Rat.mul_def']
    exact hR
abbrev s_divided : Stmt := topS 9
theorem sc_divided : FnScope ["a", "b"] ["a", "b"] (defScope s_divided) := ⟨rfl, rfl, rfl, by decide +kernel, rfl, by decide +kernel, by decide +kernel⟩
def S_div : List Ar → (PyData → Prop) → Prop := fun as R => ∃ a b : Rat, as = [.dat (num a), .dat (num b)] ∧ Sm 4000 a ∧ Sm 4000 b ∧ b ≠ 0 ∧ R (num (a / b))
theorem div_divInt (a b : Rat) : a / b = Rat.divInt (a.num * b.den) (a.den * b.num) := by
  rw [Rat.div_def, Rat.inv_def]
  conv => lhs; rw [← Rat.num_divInt_den a]
  rw [Rat.divInt_mul_divInt]
theorem ok_divided {f : Addr} {fd : FuncData} (T : Tx K mg aN aO) (F : Fun K "divided" "divided" s_divided f fd) (c_number : Cal Pg w K mg base 1 "number" (spD K S_number)) : FnOk Pg w K mg base CX0 2 f fd ["a", "b"] (spD K S_div) := by
  refine fok F sc_divided (fun as R h => by obtain ⟨n, d, rfl, _⟩ := h; rfl) fun cdv A outer s H E hr => ?_
  have nd := sc_divided.nd
  refine ⟨_, (pss_one (ps_ret (pe_c c_number hr (by decide) (by rfl) (pa_cons (pe_op op_mulW (pe_ix ix_tup (pv 0) pe_int (fun _ _ => rfl)) (pe_ix ix_tup (pv 1) pe_int (fun _ _ => rfl))) (pa_cons (pe_op op_mulW (pe_ix ix_tup (pv 0) pe_int (fun _ _ => rfl)) (pe_ix ix_tup (pv 1) pe_int (fun _ _ => rfl))) pa_nil))))), fun as R hS => ?_⟩
  dsimp only [cxOf, Cx.nox, Cx.wish]
  obtain ⟨a, b, rfl, ha, hb, h0, hR⟩ := hS
  have hb0 : b.num ≠ 0 := fun z => h0 (Rat.num_eq_zero.mp z)
  refine hs_ret (ev_call (as := [.dat (.int (a.num * b.den)), .dat (.int ((a.den : Int) * b.num))]) (by walk_at "ev"; exact mulSm ha.1 (by rw [den_nat]; exact hb.2); exact mulSm (by rw [den_nat]; exact ha.2) hb.1) fun R' hR' => ⟨_, _, rfl, Int.mul_ne_zero den_ne hb0, ?_, hR'⟩) ?_
  · rw [Int.natAbs_mul, den_nat]
    exact lt9000 ha.2 hb.1
  · show R _
    rw [← div_divInt]
    exact hR
end
end G
end
section
set_option Elab.async false
set_option linter.all false
set_option maxRecDepth 100000
set_option maxHeartbeats 4000000
/-! helpers for walks over games -/
namespace G
open PySem PySem.Spec PyProof.Rows L2
section
variable {K : PySem.W.Frag} {w : World} {ρ : List Sl} {ta tb te : TE} {d d0 d1 d2 : PyData} {ds : List PyData} {tt : TT} {t u : TS} {P : Po}
theorem hs_ifT {b : Bool} (h : EvB K w tt ρ b) (h1 : HS K w t ρ P) (e : b = true) : HS K w (tIfS tt t u) ρ P := hs_if h (fun _ => h1) (fun z => by rw [e] at z; cases z)
theorem hs_ifF {b : Bool} (h : EvB K w tt ρ b) (h1 : HS K w u ρ P) (e : b = false) : HS K w (tIfS tt t u) ρ P := hs_if h (fun z => by rw [e] at z; cases z) (fun _ => h1)
theorem ev_k_draw {p : Pl} (ha : EvD K w ta ρ (ePl p)) : EvD K w (tOp rEq (tOp (rIxT K) ta (tC (.int 0))) (tC (.str "draw"))) ρ (.bool p.is_draw) := (ev_eqStr (ev_kind ha) ev_str).is (by rw [kd_draw])
theorem ev_n_draw {p : Pl} (ha : EvD K w ta ρ (ePl p)) : EvD K w (tOp rNe (tOp (rIxT K) ta (tC (.int 0))) (tC (.str "draw"))) ρ (.bool (!p.is_draw)) := (ev_neStr (ev_kind ha) ev_str).is (by rw [kd_draw])
theorem ev_k_ours {p : Pl} (ha : EvD K w ta ρ (ePl p)) : EvD K w (tOp rEq (tOp (rIxT K) ta (tC (.int 0))) (tC (.str "ours"))) ρ (.bool p.is_ours) := (ev_eqStr (ev_kind ha) ev_str).is (by rw [kd_ours])
theorem ev_n_ours {p : Pl} (ha : EvD K w ta ρ (ePl p)) : EvD K w (tOp rNe (tOp (rIxT K) ta (tC (.int 0))) (tC (.str "ours"))) ρ (.bool (!p.is_ours)) := (ev_neStr (ev_kind ha) ev_str).is (by rw [kd_ours])
theorem ev_k_theirs {p : Pl} (ha : EvD K w ta ρ (ePl p)) : EvD K w (tOp rEq (tOp (rIxT K) ta (tC (.int 0))) (tC (.str "theirs"))) ρ (.bool p.is_theirs) := (ev_eqStr (ev_kind ha) ev_str).is (by rw [kd_theirs])
theorem ev_n_theirs {p : Pl} (ha : EvD K w ta ρ (ePl p)) : EvD K w (tOp rNe (tOp (rIxT K) ta (tC (.int 0))) (tC (.str "theirs"))) ρ (.bool (!p.is_theirs)) := (ev_neStr (ev_kind ha) ev_str).is (by rw [kd_theirs])
theorem ev_k_reward {p : Pl} (ha : EvD K w ta ρ (ePl p)) : EvD K w (tOp rEq (tOp (rIxT K) ta (tC (.int 0))) (tC (.str "reward"))) ρ (.bool p.is_reward) := (ev_eqStr (ev_kind ha) ev_str).is (by rw [kd_reward])
theorem ev_n_reward {p : Pl} (ha : EvD K w ta ρ (ePl p)) : EvD K w (tOp rNe (tOp (rIxT K) ta (tC (.int 0))) (tC (.str "reward"))) ρ (.bool (!p.is_reward)) := (ev_neStr (ev_kind ha) ev_str).is (by rw [kd_reward])
theorem ev_k_fin {p : Pl} (ha : EvD K w ta ρ (ePl p)) : EvD K w (tOp rEq (tOp (rIxT K) ta (tC (.int 0))) (tC (.str "finish"))) ρ (.bool p.is_fin) := (ev_eqStr (ev_kind ha) ev_str).is (by rw [kd_fin])
theorem ev_n_fin {p : Pl} (ha : EvD K w ta ρ (ePl p)) : EvD K w (tOp rNe (tOp (rIxT K) ta (tC (.int 0))) (tC (.str "finish"))) ρ (.bool (!p.is_fin)) := (ev_neStr (ev_kind ha) ev_str).is (by rw [kd_fin])
theorem ev_k_lose {p : Pl} (ha : EvD K w ta ρ (ePl p)) : EvD K w (tOp rEq (tOp (rIxT K) ta (tC (.int 0))) (tC (.str "lose"))) ρ (.bool p.is_lose) := (ev_eqStr (ev_kind ha) ev_str).is (by rw [kd_lose])
theorem ev_n_lose {p : Pl} (ha : EvD K w ta ρ (ePl p)) : EvD K w (tOp rNe (tOp (rIxT K) ta (tC (.int 0))) (tC (.str "lose"))) ρ (.bool (!p.is_lose)) := (ev_neStr (ev_kind ha) ev_str).is (by rw [kd_lose])
theorem ev_side {p : Pl} {s : Sd} (ha : EvD K w ta ρ (ePl p)) (hb : EvD K w tb ρ (.str (sdS s))) : EvD K w (tOp rEq (tOp (rIxT K) ta (tC (.int 0))) tb) ρ (.bool (decide (p.side = some s))) := (ev_eqStr (ev_kind ha) hb).is (by rw [kind_side])
end
end G
end
section
set_option Elab.async false
set_option linter.all false
set_option maxRecDepth 100000
set_option maxHeartbeats 4000000
/-! walks: games -/
namespace G
open PySem PySem.Spec PyProof.Rows L2
local macro_rules | `(tactic| walk_at "ev") => `(tactic| repeat' (first
  | ((with_reducible refine' ev_var ?_); rfl) | ((with_reducible refine' EvD.l (ev_var ?_)); rfl) | ((with_reducible refine' el_bor ?_); rfl) | ((with_reducible refine' EvC.l (ec_var ?_)); rfl) | ((with_reducible refine' evv_var ?_); rfl) | with_reducible exact ev_int | with_reducible exact ev_str | with_reducible exact ev_bl | with_reducible exact ev_non
  | ((with_reducible refine' Tx.evN ?_); assumption) | ((with_reducible refine' Tx.evO ?_); assumption)
  | with_reducible exact ea_nil | with_reducible refine' ea_dat ?_ ?_ | with_reducible refine' ea_bor ?_ ?_ | with_reducible refine' ea_val ?_ ?_
  | with_reducible refine' ev_add ?_ ?_ | with_reducible refine' ev_sub ?_ ?_ | with_reducible refine' ev_mulW ?_ ?_ ?_ | with_reducible refine' ev_neg ?_ | with_reducible refine' ev_cmp ?_ ?_
  | with_reducible refine' ev_q0 ?_ | with_reducible refine' ev_q1 ?_
  | with_reducible refine' ev_k_draw ?_ | with_reducible refine' ev_k_ours ?_ | with_reducible refine' ev_k_theirs ?_ | with_reducible refine' ev_k_reward ?_ | with_reducible refine' ev_k_fin ?_ | with_reducible refine' ev_k_lose ?_
  | with_reducible refine' ev_n_draw ?_ | with_reducible refine' ev_n_ours ?_ | with_reducible refine' ev_n_theirs ?_ | with_reducible refine' ev_n_reward ?_ | with_reducible refine' ev_n_fin ?_ | with_reducible refine' ev_n_lose ?_
  | with_reducible refine' ev_side ?_ ?_ | with_reducible refine' ev_kind ?_
  | with_reducible refine' eb_test ?_ | with_reducible refine' eb_B ?_ | with_reducible refine' ev_int1 ?_ | with_reducible refine' eb_not ?_ | with_reducible refine' eb_or ?_ (fun _ => ?_) | with_reducible refine' eb_and ?_ (fun _ => ?_) | with_reducible refine' ev_t0 ?_ | with_reducible refine' ev_t1 ?_ | with_reducible refine' ev_t2 ?_))
local macro_rules | `(tactic| walk_at "ifT") => `(tactic| (refine' hs_seq (hs_ifT (b := _) ?h ?n ?e); (case h => walk_at "ev"); (case e => rfl)))
local macro_rules | `(tactic| walk_at "ifF") => `(tactic| (refine' hs_seq (hs_ifF (b := _) ?h (hs_next ?n) ?e); (case h => walk_at "ev"); (case e => rfl)))
section
variable {Pg : Program} {w : World} {K : PySem.W.Frag} {mg : Str → Option Value} {base : Heap} {aN aO : Addr}
/-! targets: level 1; slots 0 game, 1 place, 2 here, 3 chance, 4 target; calls [] -/
abbrev s_targets : Stmt := topS 11
theorem sc_targets : FnScope ["game", "place", "here", "chance", "target"] ["game", "place"] (defScope s_targets) := ⟨rfl, rfl, rfl, by decide +kernel, rfl, by decide +kernel, by decide +kernel⟩
def S_targets : List Ar → (PyData → Prop) → Prop := fun as R => ∃ (g : Game) (i : Nat), as = [.dat (eG g), .dat (eN i)] ∧ i < g.length ∧ (pat g i).tgs.length ≤ 6 ∧ R (eNs (pat g i).tgs)
theorem ok_targets {f : Addr} {fd : FuncData} (T : Tx K mg aN aO) (F : Fun K "targets" "targets" s_targets f fd) : FnOk Pg w K mg base CX0 1 f fd ["game", "place"] (spD K S_targets) := by
  refine fok F sc_targets (fun as R h => ?len) fun cdv A outer s H E hr => ?_
  case len => obtain ⟨g, i, rfl, _⟩ := h; rfl
  have nd := sc_targets.nd
  refine ⟨_, (pss_cons (ps_set (i := 2) nd rfl (Or.inl rfl) (kx_ixL (K := K) rfl (pv 0) (pv 1) (fun _ _ => rfl)))
        (pss_cons (ps_if (pt_cmpR op_eq (kx_ixT (K := K) rfl (pv 2) pe_int (fun _ _ => rfl)) pe_str (nomark _)) (pss_one (ps_ret (pe_lc (own := [("chance", 3), ("target", 4)]) (g := (gTup K 2 (gCons (gName 3) (gCons (gName 4) gNil)))) (by rfl) nd (ki_list (K := K) rfl (kx_ixT (K := K) rfl (pv 2) pe_int (fun _ _ => rfl))) (blkOk_by (N := ["game", "place", "here", "chance", "target"]) (sc := defScope s_targets) (by decide +kernel)) (fun _ _ _ _ _ => (kg_tup (K := K) (n := 2) rfl rfl (pgs_cons (pg_name (i := 3) nd rfl (Or.inl rfl)) (pgs_cons (pg_name (i := 4) nd rfl (Or.inl rfl)) pgs_nil)))) (fun _ _ _ _ _ => pts_nil) (fun _ _ _ _ _ => (pv 4))))) pss_nil)
        (pss_cons (ps_if (PW.pt (pw_or (pt_cmpR op_eq (kx_ixT (K := K) rfl (pv 2) pe_int (fun _ _ => rfl)) pe_str (nomark _)) (pw_or1 (pt_cmpR op_eq (kx_ixT (K := K) rfl (pv 2) pe_int (fun _ _ => rfl)) pe_str (nomark _))))) (pss_one (ps_ret (kx_list (K := K) rfl (by rfl) T.list (pa_cons (kx_ixT (K := K) rfl (pv 2) pe_int (fun _ _ => rfl)) pa_nil)))) pss_nil)
        (pss_cons (ps_if (pt_cmpR op_eq (kx_ixT (K := K) rfl (pv 2) pe_int (fun _ _ => rfl)) pe_str (nomark _)) (pss_one (ps_ret (pe_lst (pa_cons (kx_ixT (K := K) rfl (pv 2) pe_int (fun _ _ => rfl)) pa_nil)))) pss_nil)
        (pss_one (ps_ret (pe_lst pa_nil))))))), fun as R hS => ?_⟩
  obtain ⟨g, i, rfl, hi, hl, hR⟩ := hS
  refine hs_seq (hs_asg (ev_ixG (ev_var rfl) (ev_var rfl) hi) ?_)
  revert hR hl
  cases pat g i with
  | draw bs =>
    intro hl hR
    have hl' : bs.length ≤ 6 := by simpa [Pl.tgs] using hl
    walk_at "ifT"
    refine (hs_ret (EvN.f (en_map bs (fun b => eN b.2) (ei_list (ev_t1 (ev_var rfl))) (by omega) fun a ha => ⟨_, .pair 3 4 (num a.1) (eN a.2), ev_var rfl⟩)) ?_)
    show R _
    have e : bs.map (fun b => eN b.2) = (Pl.draw bs).tgs.map eN := by
      show _ = (bs.map (·.2)).map eN
      rw [List.map_map]; rfl
    rw [e]
    exact hR
  | ours ts =>
    intro hl hR
    walk_at "ifF"
    walk_at "ifT"
    exact (hs_ret (en_list (EvD.l (ev_t1 (ev_var rfl)))).f hR)
  | theirs ts =>
    intro hl hR
    walk_at "ifF"
    walk_at "ifT"
    exact (hs_ret (en_list (EvD.l (ev_t1 (ev_var rfl)))).f hR)
  | reward r x =>
    intro hl hR
    walk_at "ifF"
    walk_at "ifF"
    walk_at "ifT"
    exact (hs_ret (EvN.f (en_lst (ds := [_]) (ea_dat (ev_t2 (ev_var rfl)) ea_nil) (by show 1 ≤ 100000; decide))) hR)
  | fin =>
    intro hl hR
    walk_at "ifF"
    walk_at "ifF"
    walk_at "ifF"
    exact hs_ret (EvN.f (en_lst (ds := []) ea_nil (by show 0 ≤ 100000; decide))) hR
  | lose =>
    intro hl hR
    walk_at "ifF"
    walk_at "ifF"
    walk_at "ifF"
    exact hs_ret (EvN.f (en_lst (ds := []) ea_nil (by show 0 ≤ 100000; decide))) hR
/-! copy_of: level 1; slots 0 place; calls [] -/
abbrev s_copy_of : Stmt := topS 13
theorem sc_copy_of : FnScope ["place"] ["place"] (defScope s_copy_of) := ⟨rfl, rfl, rfl, by decide +kernel, rfl, by decide +kernel, by decide +kernel⟩
def S_copy_of : List Ar → (PyData → Prop) → Prop := fun as R => ∃ p : Pl, as = [.dat (ePl p)] ∧ R (ePl p)
theorem ok_copy_of {f : Addr} {fd : FuncData} (T : Tx K mg aN aO) (F : Fun K "copy_of" "copy_of" s_copy_of f fd) : FnOk Pg w K mg base CX0 1 f fd ["place"] (spD K S_copy_of) := by
  refine fok F sc_copy_of (fun as R h => ?len) fun cdv A outer s H E hr => ?_
  case len => obtain ⟨p, rfl, _⟩ := h; rfl
  have nd := sc_copy_of.nd
  refine ⟨_, (pss_cons (ps_if (PW.pt (pw_or (pt_cmpR op_eq (kx_ixT (K := K) rfl (pv 0) pe_int (fun _ _ => rfl)) pe_str (nomark _)) (pw_or (pt_cmpR op_eq (kx_ixT (K := K) rfl (pv 0) pe_int (fun _ _ => rfl)) pe_str (nomark _)) (pw_or1 (pt_cmpR op_eq (kx_ixT (K := K) rfl (pv 0) pe_int (fun _ _ => rfl)) pe_str (nomark _)))))) (pss_one (ps_ret (pe_tup (pa_cons (kx_ixT (K := K) rfl (pv 0) pe_int (fun _ _ => rfl)) (pa_cons (kx_list (K := K) rfl (by rfl) T.list (pa_cons (kx_ixT (K := K) rfl (pv 0) pe_int (fun _ _ => rfl)) pa_nil)) pa_nil))))) pss_nil)
        (pss_one (ps_ret (pv 0)))), fun as R hS => ?_⟩
  obtain ⟨p, rfl, hR⟩ := hS
  revert hR
  cases p with
  | draw bs =>
    intro hR
    walk_at "ifT"
    exact (hs_ret (ev_tup (ds := [_, _]) (ea_dat (ev_t0 (ev_var rfl)) (ea_dat (en_list (EvD.l (ev_t1 (ev_var rfl)))).f ea_nil)) (by show 2 ≤ 100000; decide)) hR)
  | ours ts =>
    intro hR
    walk_at "ifT"
    exact (hs_ret (ev_tup (ds := [_, _]) (ea_dat (ev_t0 (ev_var rfl)) (ea_dat (en_list (EvD.l (ev_t1 (ev_var rfl)))).f ea_nil)) (by show 2 ≤ 100000; decide)) hR)
  | theirs ts =>
    intro hR
    walk_at "ifT"
    exact (hs_ret (ev_tup (ds := [_, _]) (ea_dat (ev_t0 (ev_var rfl)) (ea_dat (en_list (EvD.l (ev_t1 (ev_var rfl)))).f ea_nil)) (by show 2 ≤ 100000; decide)) hR)
  | reward r x =>
    intro hR
    walk_at "ifF"
    exact (hs_ret (ev_var rfl) hR)
  | fin =>
    intro hR
    walk_at "ifF"
    exact (hs_ret (ev_var rfl) hR)
  | lose =>
    intro hR
    walk_at "ifF"
    exact (hs_ret (ev_var rfl) hR)
end
end G
end
section
set_option Elab.async false
set_option linter.all false
set_option maxRecDepth 100000
set_option maxHeartbeats 4000000
/-! more helpers -/
namespace G
open PySem PySem.Spec PyProof.Rows L2
section
variable {K : PySem.W.Frag} {w : World} {ρ : List Sl} {ta tb te tl tm : TE} {d d0 d1 d2 : PyData} {ds : List PyData} {tt : TT} {t u : TS} {P : Po}
theorem ei_listM {α : Type} {enc : α → PyData} {xs : List α} (h : EvD K w tl ρ (.list (xs.map enc))) : EvI (K := K) (w := w) (iList K tl) ρ (xs.map enc) := ei_list h
theorem getD_map {α : Type} (enc : α → PyData) (xs : List α) (a : α) (i : Nat) (h : i < xs.length) : (xs.map enc).getD i .none = enc (xs.getD i a) := by
  rw [List.getD_eq_getElem?_getD, List.getD_eq_getElem?_getD, List.getElem?_map, List.getElem?_eq_getElem h]
  rfl
theorem ei_enumM {α : Type} (enc : α → PyData) (xs : List α) (a : α) (h : EvD K w tl ρ (.list (xs.map enc))) : EvI (K := K) (w := w) (iEnum K (tCons tl tNil)) ρ ((List.range xs.length).map fun i => .tuple [eN i, enc (xs.getD i a)]) := by
  refine (ei_enum h).is ?_
  rw [List.length_map]
  refine List.map_congr_left fun i hi => ?_
  rw [getD_map enc xs a i (List.mem_range.mp hi)]
  rfl
theorem ei_enumG {g : Game} (h : EvD K w tl ρ (eG g)) : EvI (K := K) (w := w) (iEnum K (tCons tl tNil)) ρ ((List.range g.length).map fun i => .tuple [eN i, ePl (pat g i)]) := ei_enumM ePl g .lose h
theorem ei_zipM {α β : Type} (enc : α → PyData) (en2 : β → PyData) (xs : List α) (ys : List β) (a : α) (b : β) (hl : xs.length = ys.length) (h : EvD K w tl ρ (.list (xs.map enc))) (h' : EvD K w tm ρ (.list (ys.map en2))) :
    EvI (K := K) (w := w) (iZip K (tCons tl (tCons tm tNil))) ρ ((List.range xs.length).map fun i => .tuple [enc (xs.getD i a), en2 (ys.getD i b)]) := by
  refine (ei_zip h h' (by rw [List.length_map, List.length_map, hl])).is ?_
  rw [List.length_map]
  refine List.map_congr_left fun i hi => ?_
  have h1 := List.mem_range.mp hi
  rw [getD_map enc xs a i h1, getD_map en2 ys b i (by rw [← hl]; exact h1)]
theorem ei_rangeN {n : Nat} (h : EvD K w tl ρ (.int (n : Int))) (hn : n ≤ 100000) : EvI (K := K) (w := w) (iRng1 (tCons tl tNil)) ρ ((List.range n).map eN) := ei_range h hn
/-- a loop over typed items -/
theorem hs_forM {α : Type} {enc : α → PyData} {wi : TI} {g : TG} (xs : List α) (Inv : Nat → List Sl → Prop) (hi : EvI (K := K) (w := w) wi ρ (xs.map enc)) (h0 : Inv 0 ρ)
    (hs : ∀ (i : Nat) (a : α) (ρ' : List Sl), xs[i]? = some a → Inv i ρ' → HG K w g ρ' (enc a) fun ρ2 => HS K w t ρ2 { P with nx := Inv (i + 1), ct := Inv (i + 1), bk := P.nx })
    (hd : ∀ ρ', Inv xs.length ρ' → P.nx ρ') : HS K w (tFor wi g t) ρ P := by
  refine hs_for Inv hi h0 (fun i d ρ' hd hI => ?_) (fun ρ' h => hd ρ' (by rw [List.length_map] at h; exact h))
  rw [List.getElem?_map] at hd
  cases hx : xs[i]? with
  | none => rw [hx] at hd; cases hd
  | some a =>
    rw [hx] at hd
    cases hd
    exact hs i a ρ' hx hI
/-- .. over 0, 1, .. n - 1 -/
theorem hs_forN {enc : Nat → PyData} {wi : TI} {g : TG} (n : Nat) (Inv : Nat → List Sl → Prop) (hi : EvI (K := K) (w := w) wi ρ ((List.range n).map enc)) (h0 : Inv 0 ρ)
    (hs : ∀ (i : Nat) (ρ' : List Sl), i < n → Inv i ρ' → HG K w g ρ' (enc i) fun ρ2 => HS K w t ρ2 { P with nx := Inv (i + 1), ct := Inv (i + 1), bk := P.nx })
    (hd : ∀ ρ', Inv n ρ' → P.nx ρ') : HS K w (tFor wi g t) ρ P := by
  refine hs_forM (List.range n) Inv hi h0 (fun i a ρ' ha hI => ?_) (fun ρ' h => hd ρ' (by rw [List.length_range] at h; exact h))
  obtain ⟨h1, h2⟩ := List.getElem?_eq_some_iff.mp ha
  rw [List.length_range] at h1
  rw [List.getElem_range] at h2
  subst h2
  exact hs i ρ' h1 hI
theorem hg_pair {i j : Nat} {a b : PyData} {Nx : List Sl → Prop} (h : Nx ((ρ.set i (.dat a)).set j (.dat b))) : HG K w (gTup K 2 (gCons (gName i) (gCons (gName j) gNil))) ρ (.tuple [a, b]) Nx := hg_tup rfl (hgs_name (hgs_name (hgs_nil h)))
theorem side_form {p : Pl} {s : Sd} (h : p.side = some s) : ePl p = .tuple [.str (sdS s), .list (p.tgs.map eN)] := by
  cases p <;> cases s <;> first | rfl | (exact absurd h (by intro z; cases z))
theorem range_succ_map {α : Type} (f : Nat → α) (n : Nat) : (List.range (n + 1)).map f = (List.range n).map f ++ [f n] := by rw [List.range_succ, List.map_append]; rfl
end
end G
end
section
set_option Elab.async false
set_option linter.all false
set_option maxRecDepth 100000
set_option maxHeartbeats 4000000
/-! walks: games, further -/
namespace G
open PySem PySem.Spec PyProof.Rows L2
local macro_rules | `(tactic| walk_at "ev") => `(tactic| repeat' (first
  | ((with_reducible refine' ev_var ?_); rfl) | ((with_reducible refine' EvD.l (ev_var ?_)); rfl) | ((with_reducible refine' el_bor ?_); rfl) | ((with_reducible refine' EvC.l (ec_var ?_)); rfl) | ((with_reducible refine' evv_var ?_); rfl) | with_reducible exact ev_int | with_reducible exact ev_str | with_reducible exact ev_bl | with_reducible exact ev_non
  | ((with_reducible refine' Tx.evN ?_); assumption) | ((with_reducible refine' Tx.evO ?_); assumption)
  | with_reducible exact ea_nil | with_reducible refine' ea_dat ?_ ?_ | with_reducible refine' ea_bor ?_ ?_ | with_reducible refine' ea_val ?_ ?_
  | with_reducible refine' ev_add ?_ ?_ | with_reducible refine' ev_sub ?_ ?_ | with_reducible refine' ev_mulW ?_ ?_ ?_ | with_reducible refine' ev_neg ?_ | with_reducible refine' ev_cmp ?_ ?_
  | with_reducible refine' ev_q0 ?_ | with_reducible refine' ev_q1 ?_
  | with_reducible refine' ev_k_draw ?_ | with_reducible refine' ev_k_ours ?_ | with_reducible refine' ev_k_theirs ?_ | with_reducible refine' ev_k_reward ?_ | with_reducible refine' ev_k_fin ?_ | with_reducible refine' ev_k_lose ?_
  | with_reducible refine' ev_n_draw ?_ | with_reducible refine' ev_n_ours ?_ | with_reducible refine' ev_n_theirs ?_ | with_reducible refine' ev_n_reward ?_ | with_reducible refine' ev_n_fin ?_ | with_reducible refine' ev_n_lose ?_
  | with_reducible refine' ev_side ?_ ?_ | with_reducible refine' ev_kind ?_
  | with_reducible refine' eb_test ?_ | with_reducible refine' eb_B ?_ | with_reducible refine' ev_int1 ?_ | with_reducible refine' eb_not ?_ | with_reducible refine' eb_or ?_ (fun _ => ?_) | with_reducible refine' eb_and ?_ (fun _ => ?_) | with_reducible refine' ev_t0 ?_ | with_reducible refine' ev_t1 ?_ | with_reducible refine' ev_t2 ?_))
local macro_rules | `(tactic| walk_at "ifT") => `(tactic| (refine' hs_seq (hs_ifT (b := _) ?h ?n ?e); (case h => walk_at "ev"); (case e => rfl)))
local macro_rules | `(tactic| walk_at "ifF") => `(tactic| (refine' hs_seq (hs_ifF (b := _) ?h (hs_next ?n) ?e); (case h => walk_at "ev"); (case e => rfl)))
section
variable {Pg : Program} {w : World} {K : PySem.W.Frag} {mg : Str → Option Value} {base : Heap} {aN aO : Addr}
/-! places_of: level 1; slots 0 game, 1 kind, 2 place, 3 here; calls [] -/
abbrev s_places_of : Stmt := topS 12
theorem sc_places_of : FnScope ["game", "kind", "place", "here"] ["game", "kind"] (defScope s_places_of) := ⟨rfl, rfl, rfl, by decide +kernel, rfl, by decide +kernel, by decide +kernel⟩
def S_places_of : List Ar → (PyData → Prop) → Prop := fun as R => ∃ (g : Game) (k : Str), as = [.dat (eG g), .dat (.str k)] ∧ g.length ≤ 40 ∧ R (eNs ((List.range g.length).filter fun i => decide (kindS (pat g i) = k)))
theorem ok_places_of {f : Addr} {fd : FuncData} (T : Tx K mg aN aO) (F : Fun K "places_of" "places_of" s_places_of f fd) : FnOk Pg w K mg base CX0 1 f fd ["game", "kind"] (spD K S_places_of) := by
  refine fok F sc_places_of (fun as R h => ?len) fun cdv A outer s H E hr => ?_
  case len => obtain ⟨g, i, rfl, _⟩ := h; rfl
  have nd := sc_places_of.nd
  refine ⟨_, (pss_one (ps_ret (pe_lc (own := [("place", 2), ("here", 3)]) (g := (gTup K 2 (gCons (gName 2) (gCons (gName 3) gNil)))) (by rfl) nd (ki_enum (K := K) rfl (by rfl) T.enumerate (pa_cons (pv 0) pa_nil)) (blkOk_by (N := ["game", "kind", "place", "here"]) (sc := defScope s_places_of) (by decide +kernel)) (fun _ _ _ _ _ => (kg_tup (K := K) (n := 2) rfl rfl (pgs_cons (pg_name (i := 2) nd rfl (Or.inl rfl)) (pgs_cons (pg_name (i := 3) nd rfl (Or.inl rfl)) pgs_nil)))) (fun _ _ _ _ _ => (pts_one (pt_cmpR op_eq (kx_ixT (K := K) rfl (pv 3) pe_int (fun _ _ => rfl)) (pv 1) (nomark _)))) (fun _ _ _ _ _ => (pv 2))))), fun as R hS => ?_⟩
  obtain ⟨g, k, rfl, hl, hR⟩ := hS
  exact hs_ret (EvN.f (en_lc (List.range g.length) (fun i => decide (kindS (pat g i) = k)) eN (ei_enumG (ev_var rfl)) (by rw [List.length_range]; omega) fun i hi => ⟨_, .pair 2 3 (eN i) (ePl (pat g i)), eb_test (ev_eqStr (ev_kind (ev_var rfl)) (ev_var rfl)), fun _ => ev_var rfl⟩)) hR
/-! with_strategy: level 2; slots 0 game, 1 side, 2 strategy, 3 found, 4 place, 5 here; calls ['copy_of 1'] -/
abbrev s_with_strategy : Stmt := topS 14
theorem sc_with_strategy : FnScope ["game", "side", "strategy", "found", "place", "here"] ["game", "side", "strategy"] (defScope s_with_strategy) := ⟨rfl, rfl, rfl, by decide +kernel, rfl, by decide +kernel, by decide +kernel⟩
def S_with_strategy : List Ar → (PyData → Prop) → Prop := fun as R => ∃ (g : Game) (s : Sd) (st : Strat), as = [.dat (eG g), .dat (.str (sdS s)), .dat (eSt st)] ∧ g.length ≤ 40 ∧ StOk s g st ∧ R (eG (put s g st))
theorem ok_with_strategy {f : Addr} {fd : FuncData} (T : Tx K mg aN aO) (F : Fun K "with_strategy" "with_strategy" s_with_strategy f fd) (c_copy_of : Cal Pg w K mg base 1 "copy_of" (spD K S_copy_of)) : FnOk Pg w K mg base CX0 2 f fd ["game", "side", "strategy"] (spD K S_with_strategy) := by
  refine fok F sc_with_strategy (fun as R h => ?len) fun cdv A outer s H E hr => ?_
  case len => obtain ⟨g, s, st, rfl, _⟩ := h; rfl
  have nd := sc_with_strategy.nd
  refine ⟨_, (pss_cons (ps_set (i := 3) nd rfl (Or.inl rfl) (pe_lst pa_nil))
        (pss_cons (ps_for PassesOwn.never rfl (ki_enum (K := K) rfl (by rfl) T.enumerate (pa_cons (pv 0) pa_nil)) (kg_tup (K := K) (n := 2) rfl rfl (pgs_cons (pg_name (i := 4) nd rfl (Or.inl rfl)) (pgs_cons (pg_name (i := 5) nd rfl (Or.inl rfl)) pgs_nil))) (pss_one (ps_if (pt_cmpR op_eq (kx_ixT (K := K) rfl (pv 5) pe_int (fun _ _ => rfl)) (pv 1) (nomark _)) (pss_one (ps_expr (kx_append (K := K) rfl (pv 3) (pa_cons (pe_tup (pa_cons pe_str (pa_cons (pe_lst (pa_cons (pe_tup (pa_cons (pe_glob (v := .ref aO) rfl T.ONE rfl) (pa_cons (kx_ixL (K := K) rfl (kx_ixT (K := K) rfl (pv 5) pe_int (fun _ _ => rfl)) (kx_ixL (K := K) rfl (pv 2) (pv 4) (fun _ _ => rfl)) (fun _ _ => rfl)) pa_nil))) pa_nil)) pa_nil))) pa_nil)))) (pss_one (ps_expr (kx_append (K := K) rfl (pv 3) (pa_cons (pe_c c_copy_of hr (by decide) (by rfl) (pa_cons (pv 5) pa_nil)) pa_nil)))))))
        (pss_one (ps_ret (pv 3))))), fun as R hS => ?_⟩
  obtain ⟨g, s, st, rfl, hl, hst, hR⟩ := hS
  refine hs_seq (hs_asgN (en_lst (ds := []) ea_nil (by show 0 ≤ 100000; decide)) ?_)
  refine hs_seq (hs_forN g.length (fun i ρ => ∃ x4 x5, ρ = [.dat (eG g), .dat (.str (sdS s)), .dat (eSt st), .lis ((List.range i).map fun j => ePl (putP s (pat g j) (st.getD j none))), x4, x5]) (ei_enumG (ev_var rfl)) ⟨_, _, rfl⟩ (fun i ρ hi hρ => ?_) (fun ρ hρ => ?_))
  · obtain ⟨x4, x5, rfl⟩ := hρ
    refine hg_pair ?_
    refine hs_if (eb_test (ev_side (ev_var rfl) (ev_var rfl))) (fun h => ?_) (fun h => ?_)
    · have hs' := of_decide_eq_true h
      obtain ⟨b, hb, hbl⟩ := hst.yes i hi hs'
      have e1 : putP s (pat g i) (st.getD i none) = .draw [(1, (pat g i).tgs.getD b 0)] := by
        have e0 : st.getD i none = some b := by rw [List.getD_eq_getElem?_getD, hb]; rfl
        unfold putP
        rw [if_pos hs', e0]
        rfl
      have hch : EvD K w (tOp (rIxL K) (tOp (rIxT K) (tVar 5) (tC (.int 1))) (tOp (rIxL K) (tVar 2) (tVar 4))) [.dat (eG g), .dat (.str (sdS s)), .dat (eSt st), .lis ((List.range i).map fun j => ePl (putP s (pat g j) (st.getD j none))), .dat (eN i), .dat (ePl (pat g i))] (eN ((pat g i).tgs.getD b 0)) := by
        refine ev_ixM (enc := eN) (xs := (pat g i).tgs) (EvD.l (ev_t1 (ds := []) (d0 := .str (sdS s)) ?_)) (ev_ixM (enc := eO) (k := i) (EvD.l (ev_var rfl)) (ev_var rfl) hb) ?_
        · exact ev_var (by rw [side_form hs']; rfl)
        · rw [List.getD_eq_getElem?_getD, List.getElem?_eq_getElem hbl]; rfl
      refine hs_append rfl (ev_tup (ds := [_, _]) (ea_dat ev_str (ea_dat (EvN.f (en_lst (ds := [_]) (ea_dat (ev_tup (ds := [_, _]) (ea_dat (Tx.evO T) (ea_dat hch ea_nil)) (by show 2 ≤ 100000; decide)) ea_nil) (by show 1 ≤ 100000; decide))) ea_nil)) (by show 2 ≤ 100000; decide)) (by rw [List.length_map, List.length_range]; omega) ?_
      refine ⟨.dat (eN i), .dat (ePl (pat g i)), ?_⟩
      rw [range_succ_map, e1]
      rfl
    · have hs' := of_decide_eq_false h
      have e1 : putP s (pat g i) (st.getD i none) = pat g i := by
        unfold putP
        rw [if_neg hs']
      refine hs_append rfl (ev_call (as := [.dat (ePl (pat g i))]) (d := ePl (pat g i)) (by walk_at "ev") fun R' hR' => ⟨_, rfl, hR'⟩) (by rw [List.length_map, List.length_range]; omega) ?_
      refine ⟨.dat (eN i), .dat (ePl (pat g i)), ?_⟩
      rw [range_succ_map, e1]
      rfl
  · obtain ⟨x4, x5, rfl⟩ := hρ
    refine hs_retF (i := 3) rfl ?_
    show R _
    have e : ((List.range g.length).map fun j => ePl (putP s (pat g j) (st.getD j none))) = (put s g st).map ePl := by
      unfold put
      rw [List.map_map]
      rfl
    rw [e]
    exact hR
end
end G
end
section
set_option Elab.async false
set_option linter.all false
set_option maxRecDepth 100000
set_option maxHeartbeats 4000000
/-! a loop over what a call gives that pops its argument; reaching -/
namespace G
open PySem PySem.Spec PyProof.Rows L2
section
variable {K : PySem.W.Frag} {w : World} {ρ : List Sl} {ta tb te tl tm : TE} {d x : PyData} {ds : List PyData} {t : TS} {P : Po} {g : TG}
theorem for_run {J : It} {items : List PyData} {I0 H0 I1 H1 : Hp} {D : Ends} {σ : L2.St} (Inv : Nat → List Sl → Prop) (e : EnvOk K w H0 I1 H1 σ ρ) (l : Le I0 H0 I1 H1) (q : EndsOk K w I0 H0 P D) (it : ItOk (K := K) J I1 items) (h0 : Inv 0 ρ)
    (hs : ∀ (i : Nat) (d : PyData) (ρ' : List Sl), items[i]? = some d → Inv i ρ' → HG K w g ρ' d fun ρ2 => HS K w t ρ2 { P with nx := Inv (i + 1), ct := Inv (i + 1), bk := P.nx })
    (hd : ∀ ρ', Inv items.length ρ' → P.nx ρ') : ∃ W : Nat → Nat → L2.St → Hp → Prop, (∃ m, W 0 m σ H1) ∧ ∀ i m σ H, W i m σ H →
  (J.stop i H ∧ D.nx σ H) ∨ (J.go i H ∧ ∃ N : L2.St → Hp → Prop, (∀ σ' H', N σ' H' → ∃ m', m' < m ∧ W (i + 1) m' σ' H') ∧ ∀ x H', J.yld i H x H' → g x σ H' fun σ2 H2 => t { D with nx := N, ct := N, bk := D.nx } σ2 H2) := by
  have q1 := q.step l
  refine ⟨fun i m σ H => m = items.length - i ∧ i ≤ items.length ∧ ∃ ρ' I', Inv i ρ' ∧ EnvOk K w H0 I' H σ ρ' ∧ Le I1 H0 I' H, ⟨_, rfl, Nat.zero_le _, ρ, I1, h0, e, l.from⟩, ?_⟩
  rintro i m σ' H' ⟨rfl, hle, ρ', I', hinv, e', l'⟩
  by_cases hlt : i < items.length
  · refine .inr ⟨it.go i I' H' l'.i l'.ih hlt, fun σ2 H2 => ∃ ρ2 I2, Inv (i + 1) ρ2 ∧ EnvOk K w H0 I2 H2 σ2 ρ2 ∧ Le I1 H0 I2 H2, fun σ2 H2 hN => ⟨items.length - (i + 1), by omega, rfl, hlt, hN⟩, fun x H2 hy => ?_⟩
    obtain ⟨I2, d, hid, l2, hx⟩ := it.yld i I' H' x H2 l'.i l'.ih hlt hy
    refine hs i d ρ' hid hinv I1 H0 I2 H2 σ' x (e'.mono l2) (l'.trans l2) hx _ fun ρ3 σ3 I3 H3 hb e3 l3 => ?_
    exact hb I1 H0 _ I3 H3 σ3 e3 l3 ⟨fun ρ4 σ4 I4 H4 a b c => ⟨ρ4, I4, a, b, c⟩, q1.rt, q1.rn, q1.nx, fun ρ4 σ4 I4 H4 a b c => ⟨ρ4, I4, a, b, c⟩⟩
  · have e0 : i = items.length := by omega
    subst e0
    exact .inl ⟨it.stop I' H' l'.i l'.ih, q1.nx ρ' σ' I' H' (hd ρ' hinv) e' l'⟩
/-- for .. in f(a, xs.pop()) -/
theorem hs_forPop {j : Nat} {S : List Ar → (PyData → Prop) → Prop} {E : XK} {items : List PyData} (Inv : Nat → List Sl → Prop) (hj : ρ[j]? = some (.lis (ds ++ [d]))) (ha : EvD K w ta ρ x)
    (hS : ∀ R : PyData → Prop, R (.list items) → S [.dat x, .dat d] R) (h0 : Inv 0 (ρ.set j (.lis ds)))
    (hs : ∀ (i : Nat) (d : PyData) (ρ' : List Sl), items[i]? = some d → Inv i ρ' → HG K w g ρ' d fun ρ2 => HS K w t ρ2 { P with nx := Inv (i + 1), ct := Inv (i + 1), bk := P.nx })
    (hd : ∀ ρ', Inv items.length ρ' → P.nx ρ') : HS K w (tFor (iList K (tCall (spD K S) [] E (tCons ta (tCons (tBM0 K "list" rPop (tVar j)) tNil)))) g t) ρ P := fun I0 H0 D I H σ e l q => by
  refine ha H0 I H σ e _ fun v I1 H1 l1 hv => ?_
  have e1 := e.mono l1
  obtain ⟨y, hy, a, xs, rfl, h1, h2, h3, h4⟩ := e1.slot hj
  have hlen : xs.length = ds.length + 1 := by rw [dpa_len h4, List.length_append]; rfl
  obtain ⟨u, hu, hp⟩ := dpa_get h4 (i := ds.length) (d := d) (by rw [List.getElem?_append_right (Nat.le_refl _), Nat.sub_self]; rfl)
  refine ⟨.ref a, hy, .inl ⟨rfl, xs, sq_of h3⟩, a, xs, u, rfl, rfl, h3, by rw [hlen]; exact hu, ?_⟩
  have hdl : DpAll K I1 xs.dropLast ds := by
    have h5 := dpa_take ds.length h4
    rw [List.take_left' rfl] at h5
    rw [List.dropLast_eq_take, hlen]
    exact h5
  have e2 := e1.chg hj hy hdl
  have l2 : Le I0 H0 I1 (upd H1 a (.lst xs.dropLast)) := by
    have l12 := l.trans l1
    exact ⟨l12.i, e2.base, e2.ih, l12.fr⟩
  refine ⟨I1, [.dat x, .dat d], e2.ih, .cons hv (.cons hp .nil), hS _ fun z I3 H3 l3 hz => ?_⟩
  obtain ⟨b, zs, rfl, k1, k2⟩ := dp_lst hz
  refine ⟨b, rfl, ⟨zs, l3.ih.l k1⟩, for_run Inv (e2.mono l3) (l2.trans l3) q ⟨fun i I H e1 e2 hi => ?_, fun i I H x H' e1 e2 hi hy => ?_, fun I H e1 e2 => ⟨zs, e2.l (e1.l k1), by rw [dpa_len k2]; exact Nat.le_refl _⟩⟩ h0 hs hd⟩
  · have hi' : i < zs.length := by rw [dpa_len k2]; exact hi
    exact ⟨zs, zs[i], e2.l (e1.l k1), List.getElem?_eq_getElem hi'⟩
  · obtain ⟨rfl, hx⟩ := hy
    have g := hx zs (e2.l (e1.l k1))
    obtain ⟨d, hd, hp⟩ := dpa_getV k2 g
    exact ⟨I, d, hd, .refl e2, hp.ex e1⟩
end
theorem nodup_le : ∀ (n : Nat) (A : List Nat), A.Nodup → (∀ a ∈ A, a < n) → A.length ≤ n
  | 0, A, _, h => by
    cases A with
    | nil => exact Nat.le_refl _
    | cons a r => exact absurd (h a List.mem_cons_self) (by omega)
  | n + 1, A, hn, h => by
    have h2 := nodup_le n (A.filter fun a => decide (a ≠ n)) (hn.filter _) (fun a ha => by
      rw [List.mem_filter] at ha
      have := h a ha.1
      have := of_decide_eq_true ha.2
      omega)
    have h3 : A.length ≤ (A.filter fun a => decide (a ≠ n)).length + 1 := by
      clear h h2
      induction A with
      | nil => simp
      | cons a r ih =>
        have hr := (List.nodup_cons.mp hn).2
        have ha := (List.nodup_cons.mp hn).1
        by_cases e : a = n
        · subst e
          rw [List.filter_cons, if_neg (by simp)]
          have hf : (r.filter fun b => decide (b ≠ a)) = r := List.filter_eq_self.mpr fun b hb => decide_eq_true (fun z => ha (by rw [← z]; exact hb))
          rw [hf]
          exact Nat.le_refl _
        · rw [List.filter_cons, if_pos (decide_eq_true e), List.length_cons, List.length_cons]
          have := ih hr
          omega
    omega
/-- a game whose targets are places -/
structure GW (g : Game) : Prop where
  len : g.length ≤ 40
  few : ∀ i, i < g.length → (pat g i).tgs.length ≤ 6
  lt : ∀ i, i < g.length → ∀ t ∈ (pat g i).tgs, t < g.length
theorem reach_closed {g : Game} {A : List Nat} {p x : Nat} (h : Reach g p x) (hp : p ∈ A) (hc : ∀ a ∈ A, ∀ t ∈ (pat g a).tgs, t ∈ A) : x ∈ A := by
  induction h with
  | refl p => exact hp
  | step ht _ ih => exact ih (hc _ hp _ ht)
theorem reach_snoc {g : Game} {p a t : Nat} (h : Reach g p a) (ht : t ∈ (pat g a).tgs) : Reach g p t := by
  induction h with
  | refl p => exact .step ht (.refl t)
  | step h1 _ ih => exact .step h1 (ih ht)
end G
end
section
set_option Elab.async false
set_option linter.all false
set_option maxRecDepth 100000
set_option maxHeartbeats 4000000
/-! walks: what is reached -/
namespace G
open PySem PySem.Spec PyProof.Rows L2
local macro_rules | `(tactic| walk_at "ev") => `(tactic| repeat' (first
  | ((with_reducible refine' ev_var ?_); rfl) | ((with_reducible refine' EvD.l (ev_var ?_)); rfl) | ((with_reducible refine' el_bor ?_); rfl) | ((with_reducible refine' EvC.l (ec_var ?_)); rfl) | ((with_reducible refine' evv_var ?_); rfl) | with_reducible exact ev_int | with_reducible exact ev_str | with_reducible exact ev_bl | with_reducible exact ev_non
  | ((with_reducible refine' Tx.evN ?_); assumption) | ((with_reducible refine' Tx.evO ?_); assumption)
  | with_reducible exact ea_nil | with_reducible refine' ea_dat ?_ ?_ | with_reducible refine' ea_bor ?_ ?_ | with_reducible refine' ea_val ?_ ?_
  | with_reducible refine' ev_add ?_ ?_ | with_reducible refine' ev_sub ?_ ?_ | with_reducible refine' ev_mulW ?_ ?_ ?_ | with_reducible refine' ev_neg ?_ | with_reducible refine' ev_cmp ?_ ?_
  | with_reducible refine' ev_q0 ?_ | with_reducible refine' ev_q1 ?_
  | with_reducible refine' ev_k_draw ?_ | with_reducible refine' ev_k_ours ?_ | with_reducible refine' ev_k_theirs ?_ | with_reducible refine' ev_k_reward ?_ | with_reducible refine' ev_k_fin ?_ | with_reducible refine' ev_k_lose ?_
  | with_reducible refine' ev_n_draw ?_ | with_reducible refine' ev_n_ours ?_ | with_reducible refine' ev_n_theirs ?_ | with_reducible refine' ev_n_reward ?_ | with_reducible refine' ev_n_fin ?_ | with_reducible refine' ev_n_lose ?_
  | with_reducible refine' ev_side ?_ ?_ | with_reducible refine' ev_kind ?_
  | with_reducible refine' eb_test ?_ | with_reducible refine' eb_B ?_ | with_reducible refine' ev_int1 ?_ | with_reducible refine' eb_not ?_ | with_reducible refine' eb_or ?_ (fun _ => ?_) | with_reducible refine' eb_and ?_ (fun _ => ?_) | with_reducible refine' ev_t0 ?_ | with_reducible refine' ev_t1 ?_ | with_reducible refine' ev_t2 ?_))
local macro_rules | `(tactic| walk_at "ifT") => `(tactic| (refine' hs_seq (hs_ifT (b := _) ?h ?n ?e); (case h => walk_at "ev"); (case e => rfl)))
local macro_rules | `(tactic| walk_at "ifF") => `(tactic| (refine' hs_seq (hs_ifF (b := _) ?h (hs_next ?n) ?e); (case h => walk_at "ev"); (case e => rfl)))
section
variable {Pg : Program} {w : World} {K : PySem.W.Frag} {mg : Str → Option Value} {base : Heap} {aN aO : Addr}
/-! reached: level 2; slots 0 game, 1 place, 2 seen, 3 waiting, 4 target; calls ['targets 1'] -/
abbrev s_reached : Stmt := topS 15
theorem sc_reached : FnScope ["game", "place", "seen", "waiting", "target"] ["game", "place"] (defScope s_reached) := ⟨rfl, rfl, rfl, by decide +kernel, rfl, by decide +kernel, by decide +kernel⟩
def S_reached : List Ar → (PyData → Prop) → Prop := fun as R => ∃ (g : Game) (p : Nat), as = [.dat (eG g), .dat (eN p)] ∧ GW g ∧ p < g.length ∧ ∀ l : List Nat, (∀ x, x ∈ l ↔ Reach g p x) → R (eNs l)
theorem fokC {x : Str} {st : Stmt} {f : Addr} {fd : FuncData} {N ps : List Str} {k : Nat} {S : List Ar → (PyData → Prop) → Prop} (F : Fun K x x st f fd) (Sc : FnScope N ps (defScope st))
    (len : ∀ as R, S as R → as.length = ps.length)
    (hbody : ∀ (cdv : Value) (A : Around) (outer : List Env) (s : Shared) (H : Hp) (E : XK), Room k (A.deeper (envOfC x (defScope st) s.heap.objs.size f cdv)) → PySem.W.codeIn K cdv x = true →
      ∃ t, PSs (cxOf CX0 Pg w K mg base N x (defScope st) f cdv A outer s H E).nox (defBody st) t ∧ ∀ as R, S as R → HS K w t (rho0 N as) { nx := fun _ => False, rt := R }) : FnOk Pg w K mg base CX0 (k + 1) f fd ps (spD K S) := by
  obtain ⟨oc, od, kV, doc, pm, an, cdv, ct, osl, rfl, lk, hcd⟩ := F.ex
  refine fn_of lk hcd Sc (fun vs H Q E h => ?_) fun A outer s H vs Q E hr hsp => ?_
  · obtain ⟨I, as, _, ha, hS⟩ := h
    rw [ha.len]
    exact len as _ hS
  · obtain ⟨I, as, e, ha, hS⟩ := hsp
    obtain ⟨t, ht, hh⟩ := hbody cdv A outer s H E hr hcd
    refine ⟨t, ht.nox, hh as _ hS I H _ I H _ (env0 e ha) (.refl e) ⟨fun _ _ _ _ z => z.elim, fun d v I' H' hR l hv => hR v I' H' l hv, fun _ _ _ _ _ z => z.elim, fun _ _ _ _ z => z.elim, fun _ _ _ _ z => z.elim⟩⟩
/-- what holds in the search: A seen, wl waiting -/
structure Rch (g : Game) (p : Nat) (A wl : List Nat) (S : Int → Bool) : Prop where
  s : ∀ k : Int, S k = true ↔ ∃ a ∈ A, (a : Int) = k
  nd : A.Nodup
  ok : ∀ a ∈ A, a < g.length ∧ Reach g p a
  wl : ∀ a ∈ wl, a ∈ A
  p : p ∈ A
theorem Rch.le {g : Game} {p : Nat} {A wl : List Nat} {S : Int → Bool} (r : Rch g p A wl S) : A.length ≤ g.length := nodup_le _ _ r.nd fun a ha => (r.ok a ha).1
theorem ok_reached {f : Addr} {fd : FuncData} (T : Tx K mg aN aO) (F : Fun K "reached" "reached" s_reached f fd) (c_targets : Cal Pg w K mg base 1 "targets" (spD K S_targets)) : FnOk Pg w K mg base CX0 2 f fd ["game", "place"] (spD K S_reached) := by
  refine fokC F sc_reached (fun as R h => ?len) fun cdv A outer s H E hr hcd => ?_
  case len => obtain ⟨g, p, rfl, _⟩ := h; rfl
  have nd := sc_reached.nd
  have hkd := L2.kdsCode_of hcd
  refine ⟨_, (pss_cons (ps_set (i := 2) nd rfl (Or.inl rfl) (kx_set1 (w := w) rfl hkd (pv 1)))
        (pss_cons (ps_set (i := 3) nd rfl (Or.inl rfl) (pe_lst (pa_cons (pv 1) pa_nil)))
        (pss_cons (ps_while PassesOwn.never (kt_truth (K := K) rfl (pv 3) (by intro _; rfl)) (pss_one (ps_for PassesOwn.never rfl (ki_list (K := K) rfl (pe_c c_targets hr (by decide) (by rfl) (pa_cons (pv 0) (pa_cons (kx_pop (K := K) rfl (pv 3)) pa_nil)))) (pg_name (i := 4) nd rfl (Or.inl rfl)) (pss_one (ps_if (kt_niS (w := w) rfl (pv 4) (pv 2) rfl) (pss_cons (ps_expr (kx_sadd (w := w) rfl (pv 2) (pa_cons (pv 4) pa_nil)))
        (pss_one (ps_expr (kx_append (K := K) rfl (pv 3) (pa_cons (pv 4) pa_nil))))) pss_nil)))))
        (pss_one (ps_ret (kx_sorted (w := w) rfl rfl (by rfl) T.sorted (pa_cons (pv 2) pa_nil))))))), fun as R hS => ?_⟩
  obtain ⟨g, p, rfl, hg, hp, hR⟩ := hS
  refine hs_seq (hs_asgS (ev_var rfl) ?_)
  refine hs_seq (hs_asgN (en_lst (ds := [eN p]) (ea_dat (ev_var rfl) ea_nil) (by show 1 ≤ 100000; decide)) ?_)
  refine hs_seq (hs_while (fun m ρ => ∃ A wl S x4, ρ = [.dat (eG g), .dat (eN p), .set S A.length, .lis (wl.map eN), x4] ∧ Rch g p A wl S ∧ (∀ a ∈ A, a ∈ wl ∨ ∀ t ∈ (pat g a).tgs, t ∈ A) ∧ 2 * (g.length - A.length) + wl.length = m ∧ m ≤ 200)
    (2 * (g.length - 1) + 1) ⟨[p], [p], _, _, rfl, ⟨fun k => ?_, by simp, fun a ha => ?_, fun a ha => ha, by simp⟩, fun a ha => Or.inl ha, rfl, by have := hg.len; omega⟩ fun m ρ hρ => ?_)
  · simp only [decide_eq_true_eq, List.mem_singleton, exists_eq_left]
    exact eq_comm
  · rw [List.mem_singleton.mp ha]
    exact ⟨hp, .refl p⟩
  · obtain ⟨A, wl, S, x4, rfl, r, hc, hm, hm2⟩ := hρ
    refine ⟨_, eb_list (EvC.l (ec_var (ds := wl.map eN) rfl)), fun hb => ?_, fun hb => ?_⟩
    · have hne : wl ≠ [] := fun z => by subst z; exact absurd hb (by decide)
      obtain ⟨ds, d, rfl⟩ : ∃ ds d, wl = ds ++ [d] := ⟨_, _, (List.dropLast_concat_getLast hne).symm⟩
      have hd := r.ok d (r.wl d (List.mem_append_right _ (List.mem_singleton_self d)))
      refine hs_forPop (j := 3) (ds := ds.map eN) (d := eN d) (items := (pat g d).tgs.map eN) (x := eG g)
        (fun i ρ => ∃ A' wl' S' x4, ρ = [.dat (eG g), .dat (eN p), .set S' A'.length, .lis (wl'.map eN), x4] ∧ Rch g p A' wl' S' ∧ (∀ a ∈ A', a ∈ wl' ∨ a = d ∨ ∀ t ∈ (pat g a).tgs, t ∈ A') ∧ (∀ t ∈ (pat g d).tgs.take i, t ∈ A') ∧ d ∈ A' ∧ 2 * (g.length - A'.length) + wl'.length < m)
        (by rw [List.map_append]; rfl) (ev_var rfl) (fun R' hR' => ⟨g, d, rfl, hd.1, hg.few d hd.1, hR'⟩) ?_ (fun i x ρ hx hρ => ?_) fun ρ hρ => ?_
      · refine ⟨A, ds, S, x4, rfl, ⟨r.s, r.nd, r.ok, fun a ha => r.wl a (List.mem_append_left _ ha), r.p⟩, fun a ha => ?_, fun t ht => by simp at ht, r.wl d (List.mem_append_right _ (List.mem_singleton_self d)), ?_⟩
        · rcases hc a ha with h | h
          · rcases List.mem_append.mp h with h | h
            · exact .inl h
            · exact .inr (.inl (List.mem_singleton.mp h))
          · exact .inr (.inr h)
        · rw [List.length_append] at hm
          have : [d].length = 1 := rfl
          omega
      · obtain ⟨A', wl', S', x4, rfl, r', hc', ht', hdA, hm'⟩ := hρ
        rw [List.getElem?_map] at hx
        cases hti : (pat g d).tgs[i]? with
        | none => rw [hti] at hx; cases hx
        | some t =>
          rw [hti] at hx
          cases hx
          have htm : t ∈ (pat g d).tgs := List.mem_of_getElem? hti
          have htk : (pat g d).tgs.take (i + 1) = (pat g d).tgs.take i ++ [t] := by rw [List.take_add_one, hti]; rfl
          refine hg_name ?_
          refine hs_if (eb_test (ev_niSet (i := 2) (k := (t : Int)) (ev_var rfl) rfl)) (fun h => ?_) (fun h => ?_)
          · have hSt : S' (t : Int) = false := by simpa using h
            have hnA : t ∉ A' := fun z => by
              have := (r'.s t).mpr ⟨t, z, rfl⟩
              rw [hSt] at this; cases this
            have ndA : (A' ++ [t]).Nodup := by
              rw [List.nodup_append]
              exact ⟨r'.nd, by simp, fun a ha b hb => by rw [List.mem_singleton.mp hb]; exact fun z => hnA (z ▸ ha)⟩
            have rn : Rch g p (A' ++ [t]) (wl' ++ [t]) (fun j => S' j || decide (j = (t : Int))) := by
              refine ⟨fun k => ?_, ndA, fun a ha => ?_, fun a ha => ?_, List.mem_append_left _ r'.p⟩
              · rw [Bool.or_eq_true, r'.s, decide_eq_true_eq]
                constructor
                · rintro (⟨a, ha, e⟩ | e)
                  · exact ⟨a, List.mem_append_left _ ha, e⟩
                  · exact ⟨t, List.mem_append_right _ (List.mem_singleton_self t), e.symm⟩
                · rintro ⟨a, ha, e⟩
                  rcases List.mem_append.mp ha with h | h
                  · exact .inl ⟨a, h, e⟩
                  · rw [List.mem_singleton.mp h] at e
                    exact .inr e.symm
              · rcases List.mem_append.mp ha with h | h
                · exact r'.ok a h
                · rw [List.mem_singleton.mp h]
                  exact ⟨hg.lt d hd.1 t htm, reach_snoc hd.2 htm⟩
              · rcases List.mem_append.mp ha with h | h
                · exact List.mem_append_left _ (r'.wl a h)
                · exact List.mem_append_right _ h
            have hle := rn.le
            rw [List.length_append] at hle
            have h1 : [t].length = 1 := rfl
            have hgl := hg.len
            refine hs_seq (hs_sadd (i := 2) (k := (t : Int)) rfl (ev_var rfl) (by omega) ?_)
            refine hs_append (i := 3) (d := eN t) rfl (ev_var rfl) (by rw [List.length_map]; omega) ?_
            refine ⟨A' ++ [t], wl' ++ [t], _, .dat (eN t), ?_, rn, fun a ha => ?_, fun a ha => ?_, List.mem_append_left _ hdA, ?_⟩
            · rw [if_neg (by rw [hSt]; decide), List.map_append, List.length_append]
              rfl
            · rcases List.mem_append.mp ha with h | h
              · rcases hc' a h with h | h | h
                · exact .inl (List.mem_append_left _ h)
                · exact .inr (.inl h)
                · exact .inr (.inr fun x hx => List.mem_append_left _ (h x hx))
              · exact .inl (List.mem_append_right _ h)
            · rw [htk] at ha
              rcases List.mem_append.mp ha with h | h
              · exact List.mem_append_left _ (ht' a h)
              · exact List.mem_append_right _ h
            · rw [List.length_append, List.length_append]
              omega
          · have hSt : S' (t : Int) = true := by simpa using h
            obtain ⟨a, ha, e⟩ := (r'.s t).mp hSt
            have hta : a = t := by omega
            refine hs_next ⟨A', wl', S', .dat (eN t), rfl, r', hc', fun x hx => ?_, hdA, hm'⟩
            rw [htk] at hx
            rcases List.mem_append.mp hx with h | h
            · exact ht' x h
            · rw [List.mem_singleton.mp h, ← hta]; exact ha
      · obtain ⟨A', wl', S', x4, rfl, r', hc', ht', hdA, hm'⟩ := hρ
        rw [List.length_map, List.take_length] at ht'
        refine ⟨_, hm', A', wl', S', x4, rfl, r', fun a ha => ?_, rfl, by omega⟩
        rcases hc' a ha with h | h | h
        · exact .inl h
        · exact .inr (h ▸ ht')
        · exact .inr h
    · have he : wl = [] := by
        cases wl with
        | nil => rfl
        | cons a r => exact absurd hb (by simp)
      subst he
      have hgl := hg.len
      have hle := r.le
      refine hs_retR (EvNR.f (R' := fun d => ∃ l : List Nat, d = eNs l ∧ ∀ x, x ∈ l ↔ Reach g p x) (en_sorted (i := 2) rfl (by omega)) fun ds hds => ?_) (fun d hd => ?_)
      · obtain ⟨ns, rfl, h1, h2⟩ := hds
        refine ⟨ns.map Int.toNat, ?_, fun x => ?_⟩
        · show PyData.list _ = PyData.list _
          rw [List.map_map]
          congr 1
          refine List.map_congr_left fun k hk => ?_
          obtain ⟨a, ha, e⟩ := (r.s k).mp ((h1 k).mp hk)
          show PyData.int k = PyData.int ((k.toNat : Nat) : Int)
          rw [← e]
          rfl
        · rw [List.mem_map]
          constructor
          · rintro ⟨k, hk, rfl⟩
            obtain ⟨a, ha, e⟩ := (r.s k).mp ((h1 k).mp hk)
            rw [← e]
            exact (r.ok a ha).2
          · intro hx
            have hxA := reach_closed hx r.p fun a ha => (hc a ha).resolve_left (by simp)
            exact ⟨(x : Int), (h1 _).mpr ((r.s _).mpr ⟨x, hxA, rfl⟩), rfl⟩
      · obtain ⟨l, rfl, hl⟩ := hd
        exact hR l hl
end
end G
end
section
set_option Elab.async false
set_option linter.all false
set_option maxRecDepth 100000
set_option maxHeartbeats 4000000
/-! equality of data; calls of the numbers' defs; lists by functions -/
namespace G
open PySem PySem.Spec PyProof.Rows L2
theorem eqv_int (a b : Int) : PyData.eqv (.int a) (.int b) = decide (a = b) := by
  rw [PyData.eqv]
  exact Bool.eq_iff_iff.mpr (by simp)
theorem eqv_num (a b : Rat) : PyData.eqv (num a) (num b) = decide (a = b) := by
  unfold num
  rw [PyData.eqv, PyData.eqvAll, PyData.eqvAll, PyData.eqvAll, eqv_int, eqv_int, Bool.and_true]
  rw [Bool.eq_iff_iff, Bool.and_eq_true, decide_eq_true_eq, decide_eq_true_eq, decide_eq_true_eq]
  constructor
  · rintro ⟨h1, h2⟩
    exact Rat.ext h1 (by omega)
  · rintro rfl
    exact ⟨rfl, rfl⟩
theorem can_num (a : Rat) : (num a).canLay0 = true := by
  unfold num
  rw [PyData.canLay0, PyData.canLayAll0, PyData.canLayAll0, PyData.canLayAll0, PyData.canLay0, PyData.canLay0]
  rfl
theorem dep_num (a : Rat) : (num a).depth = 1 := by
  unfold num
  rw [PyData.depth, PyData.depthAll, PyData.depthAll, PyData.depthAll, PyData.depth, PyData.depth]
  rfl
theorem shaped_num (a : Rat) : SeqAt.shaped (num a) = true := by
  unfold SeqAt.shaped
  rw [can_num, dep_num]
  rfl
theorem can_all {α : Type} (enc : α → PyData) (h : ∀ a, (enc a).canLay0 = true) : ∀ l : List α, PyData.canLayAll0 (l.map enc) = true
  | [] => by rw [List.map_nil, PyData.canLayAll0]
  | a :: l => by rw [List.map_cons, PyData.canLayAll0, h a, can_all enc h l]; rfl
theorem dep_all {α : Type} (enc : α → PyData) (n : Nat) (h : ∀ a, (enc a).depth ≤ n) : ∀ l : List α, PyData.depthAll (l.map enc) ≤ n
  | [] => by rw [List.map_nil, PyData.depthAll]; exact Nat.zero_le _
  | a :: l => by rw [List.map_cons, PyData.depthAll]; exact Nat.max_le.mpr ⟨h a, dep_all enc n h l⟩
theorem shaped_list {α : Type} (enc : α → PyData) (n : Nat) (hn : n ≤ 60) (h : ∀ a, (enc a).canLay0 = true) (h2 : ∀ a, (enc a).depth ≤ n) (l : List α) : SeqAt.shaped (.list (l.map enc)) = true := by
  unfold SeqAt.shaped
  rw [PyData.canLay0, can_all enc h, PyData.depth, Bool.true_and]
  exact decide_eq_true (by have := dep_all enc n h2 l; omega)
theorem can_eO (o : Option Nat) : (eO o).canLay0 = true := by
  cases o with
  | none => show PyData.canLay0 .none = true; rw [PyData.canLay0]
  | some b => show PyData.canLay0 (.int b) = true; rw [PyData.canLay0]
theorem dep_eO (o : Option Nat) : (eO o).depth ≤ 0 := by
  cases o with
  | none => show PyData.depth .none ≤ 0; rw [PyData.depth]; exact Nat.le_refl _
  | some b => show PyData.depth (.int b) ≤ 0; rw [PyData.depth]; exact Nat.le_refl _
theorem shaped_eSt (s : Strat) : SeqAt.shaped (eSt s) = true := shaped_list eO 0 (by decide) can_eO dep_eO s
theorem shaped_eNs (s : List Nat) : SeqAt.shaped (eNs s) = true := shaped_list eN 0 (by decide) (fun b => by show PyData.canLay0 (.int b) = true; rw [PyData.canLay0]) (fun b => by show PyData.depth (.int b) ≤ 0; rw [PyData.depth]; exact Nat.le_refl _) s
theorem eqv_eO (a b : Option Nat) : PyData.eqv (eO a) (eO b) = decide (a = b) := by
  cases a with
  | none =>
    cases b with
    | none => show PyData.eqv .none .none = _; rw [PyData.eqv]; rfl
    | some b => show PyData.eqv .none (.int b) = _; rw [PyData.eqv]; rfl
  | some a =>
    cases b with
    | none => show PyData.eqv (.int a) .none = _; rw [PyData.eqv]; rfl
    | some b =>
      show PyData.eqv (.int a) (.int b) = _
      rw [eqv_int, Bool.eq_iff_iff, decide_eq_true_eq, decide_eq_true_eq]
      constructor
      · intro h; rw [Int.ofNat_inj.mp h]
      · intro h; rw [Option.some.inj h]
theorem eqv_eSt (s t : Strat) : PyData.eqv (eSt s) (eSt t) = decide (s = t) := by
  unfold eSt
  rw [PyData.eqv]
  induction s generalizing t with
  | nil =>
    cases t with
    | nil => rw [List.map_nil, PyData.eqvAll]; rfl
    | cons a t => rw [List.map_nil, List.map_cons, PyData.eqvAll]; rfl
  | cons a s ih =>
    cases t with
    | nil => rw [List.map_nil, List.map_cons, PyData.eqvAll]; rfl
    | cons b t =>
      rw [List.map_cons, List.map_cons, PyData.eqvAll, eqv_eO, ih, Bool.eq_iff_iff, Bool.and_eq_true, decide_eq_true_eq, decide_eq_true_eq, decide_eq_true_eq, List.cons.injEq]
theorem eqv_nil (l : List Nat) : PyData.eqv (eNs l) (.list []) = l.isEmpty := by
  unfold eNs
  rw [PyData.eqv]
  cases l with
  | nil => rw [List.map_nil, PyData.eqvAll]; rfl
  | cons a l => rw [List.map_cons, PyData.eqvAll]; rfl
theorem shaped_nil : SeqAt.shaped (.list []) = true := shaped_eNs []
section
variable {K : PySem.W.Frag} {w : World} {ρ : List Sl} {ta tb te tl tm : TE} {d x : PyData} {ds : List PyData} {E : XK}
theorem ev_eqQ {a b : Rat} (ha : EvD K w ta ρ (num a)) (hb : EvD K w tb ρ (num b)) : EvD K w (tOp (rEqD K) ta tb) ρ (.bool (decide (a = b))) := (ev_eqD ha hb (shaped_num a) (shaped_num b)).is (by rw [eqv_num])
theorem ev_neQ {a b : Rat} (ha : EvD K w ta ρ (num a)) (hb : EvD K w tb ρ (num b)) : EvD K w (tOp (rNeD K) ta tb) ρ (.bool (!decide (a = b))) := (ev_neD ha hb (shaped_num a) (shaped_num b)).is (by rw [eqv_num])
theorem ev_two {op : Rat → Rat → Rat} {a b : Rat} (ha : EvD K w ta ρ (num a)) (hb : EvD K w tb ρ (num b)) (sa : Sm 4000 a) (sb : Sm 4000 b) : EvD K w (tCall (spD K (S_two op)) [] E (tCons ta (tCons tb tNil))) ρ (num (op a b)) :=
  ev_call (ea_dat ha (ea_dat hb ea_nil)) fun R hR => ⟨a, b, rfl, sa, sb, hR⟩
theorem ev_divd {a b : Rat} (ha : EvD K w ta ρ (num a)) (hb : EvD K w tb ρ (num b)) (sa : Sm 4000 a) (sb : Sm 4000 b) (h0 : b ≠ 0) : EvD K w (tCall (spD K S_div) [] E (tCons ta (tCons tb tNil))) ρ (num (a / b)) :=
  ev_call (ea_dat ha (ea_dat hb ea_nil)) fun R hR => ⟨a, b, rfl, sa, sb, h0, hR⟩
/-! lists given by functions -/
def eF (n : Nat) (f : Nat → PyData) : PyData := .list ((List.range n).map f)
def eFq (n : Nat) (f : Nat → Rat) : PyData := .list ((List.range n).map fun k => num (f k))
theorem getF {α : Type} {n k : Nat} (f : Nat → α) (h : k < n) : ((List.range n).map f)[k]? = some (f k) := by
  rw [List.getElem?_map, List.getElem?_range h]; rfl
theorem ev_ixF {n k : Nat} {f : Nat → PyData} (ha : EvL K w ta ρ ((List.range n).map f)) (hb : EvD K w tb ρ (eN k)) (hk : k < n) : EvD K w (tOp (rIxL K) ta tb) ρ (f k) := ev_ixLn (k := k) ha hb (getF f hk)
theorem ei_listF {n : Nat} {f : Nat → PyData} (h : EvD K w tl ρ (.list ((List.range n).map f))) : EvI (K := K) (w := w) (iList K tl) ρ ((List.range n).map f) := ei_list h
theorem getDF {n k : Nat} (f : Nat → PyData) (h : k < n) : ((List.range n).map f).getD k .none = f k := by
  rw [List.getD_eq_getElem?_getD, getF f h]; rfl
theorem ei_zipF {n : Nat} {f g : Nat → PyData} (h : EvD K w tl ρ (.list ((List.range n).map f))) (h' : EvD K w tm ρ (.list ((List.range n).map g))) : EvI (K := K) (w := w) (iZip K (tCons tl (tCons tm tNil))) ρ ((List.range n).map fun i => .tuple [f i, g i]) := by
  refine (ei_zip h h' (by rw [List.length_map, List.length_map])).is ?_
  rw [List.length_map, List.length_range]
  refine List.map_congr_left fun i hi => ?_
  rw [getDF f (List.mem_range.mp hi), getDF g (List.mem_range.mp hi)]
theorem ei_enumF {n : Nat} {f : Nat → PyData} (h : EvD K w tl ρ (.list ((List.range n).map f))) : EvI (K := K) (w := w) (iEnum K (tCons tl tNil)) ρ ((List.range n).map fun i => .tuple [eN i, f i]) := by
  refine (ei_enum h).is ?_
  rw [List.length_map, List.length_range]
  refine List.map_congr_left fun i hi => ?_
  rw [getDF f (List.mem_range.mp hi)]
  rfl
theorem en_mapF {n : Nat} {wi : TI} {g : TG} {te : TE} {vs : List Nat} {enc : Nat → PyData} (val : Nat → PyData) (hi : EvI (K := K) (w := w) wi ρ ((List.range n).map enc)) (hz : n ≤ 50000)
    (turn : ∀ a, a < n → ∃ f, TgOk K g vs (enc a) f ∧ EvD K w te (f (wipeS ρ vs)) (val a)) : EvN K w (tLc wi g tYes te vs) ρ ((List.range n).map val) :=
  en_map (List.range n) val hi (by rw [List.length_range]; exact hz) fun a ha => turn a (List.mem_range.mp ha)
end
/-- of a list of things, each as told: typed -/
theorem typed_list {α : Type} (enc : α → PyData) (P : Nat → α → Prop) : ∀ (ds : List PyData) (n : Nat), (∀ (i : Nat) d, ds[i]? = some d → ∃ l, d = enc l ∧ P (n + i) l) → ∃ ls : List α, ds = ls.map enc ∧ ∀ (i : Nat) l, ls[i]? = some l → P (n + i) l
  | [], n, _ => ⟨[], rfl, fun i l h => by simp at h⟩
  | d :: ds, n, h => by
    obtain ⟨l, rfl, hl⟩ := h 0 d rfl
    obtain ⟨ls, rfl, hls⟩ := typed_list enc P ds (n + 1) fun i e he => by
      obtain ⟨l, e1, e2⟩ := h (i + 1) e (by simpa using he)
      exact ⟨l, e1, by rw [show n + 1 + i = n + (i + 1) by omega]; exact e2⟩
    refine ⟨l :: ls, rfl, fun i m hm => ?_⟩
    cases i with
    | zero => simp at hm; subst hm; exact hl
    | succ i =>
      have := hls i m (by simpa using hm)
      rw [show n + 1 + i = n + (i + 1) by omega] at this
      exact this
theorem set_range {α : Type} (n i : Nat) (f : Nat → α) (x : α) : ((List.range n).map f).set i x = (List.range n).map fun k => if k = i then x else f k := by
  apply List.ext_getElem?
  intro j
  rw [List.getElem?_map]
  by_cases hj : i = j
  · subst hj
    by_cases hi : i < n
    · rw [List.getElem?_set_self (by rw [List.length_map, List.length_range]; exact hi), List.getElem?_range hi]
      show some x = some (if i = i then x else f i)
      rw [if_pos rfl]
    · rw [List.getElem?_eq_none (by rw [List.length_set, List.length_map, List.length_range]; omega), List.getElem?_eq_none (by rw [List.length_range]; omega)]
      rfl
  · rw [List.getElem?_set_ne hj, List.getElem?_map]
    by_cases hi : j < n
    · rw [List.getElem?_range hi]
      show some (f j) = some (if j = i then x else f j)
      rw [if_neg (fun z => hj z.symm)]
    · rw [List.getElem?_eq_none (by rw [List.length_range]; omega)]
      rfl
/-! sizes -/
theorem Sm.add {a b : Nat} {x y : Rat} (h1 : Sm a x) (h2 : Sm b y) : Sm (a + b + 1) (x + y) := by
  have h3 : 0 < x.den * y.den := Nat.mul_pos x.den_pos y.den_pos
  have e : x + y = mkRat (x.num * y.den + y.num * x.den) (x.den * y.den) := Rat.add_def' x y
  have hd : x.den * y.den < 2 ^ (a + b) := by
    rw [Nat.pow_add]; exact Nat.mul_lt_mul'' h1.2 h2.2
  have n1 : (x.num * y.den).natAbs < 2 ^ (a + b) := by
    rw [Int.natAbs_mul, den_nat, Nat.pow_add]; exact Nat.mul_lt_mul'' h1.1 h2.2
  have n2 : (y.num * x.den).natAbs < 2 ^ (a + b) := by
    rw [Int.natAbs_mul, den_nat, Nat.pow_add, Nat.mul_comm (2 ^ a)]; exact Nat.mul_lt_mul'' h2.1 h1.2
  have n3 : (x.num * y.den + y.num * x.den).natAbs < 2 ^ (a + b + 1) := by
    rw [Nat.pow_succ]
    have := Int.natAbs_add_le (x.num * y.den) (y.num * x.den)
    omega
  constructor
  · rw [e, Rat.num_mkRat, if_neg (by omega)]
    exact Nat.lt_of_le_of_lt (by rw [Int.natAbs_ediv_of_dvd]; exact Nat.div_le_self _ _; exact Int.ofNat_dvd_left.mpr (Nat.gcd_dvd_right _ _)) n3
  · rw [e, Rat.den_mkRat, if_neg (by omega)]
    refine Nat.lt_of_le_of_lt (Nat.div_le_self _ _) (Nat.lt_of_lt_of_le hd (Nat.pow_le_pow_right (by decide) (by omega)))
theorem Sm.mul {a b : Nat} {x y : Rat} (h1 : Sm a x) (h2 : Sm b y) : Sm (a + b) (x * y) := by
  have h3 : 0 < x.den * y.den := Nat.mul_pos x.den_pos y.den_pos
  have e : x * y = mkRat (x.num * y.num) (x.den * y.den) := Rat.mul_def' x y
  have hd : x.den * y.den < 2 ^ (a + b) := by
    rw [Nat.pow_add]; exact Nat.mul_lt_mul'' h1.2 h2.2
  have n3 : (x.num * y.num).natAbs < 2 ^ (a + b) := by
    rw [Int.natAbs_mul, Nat.pow_add]; exact Nat.mul_lt_mul'' h1.1 h2.1
  constructor
  · rw [e, Rat.num_mkRat, if_neg (by omega)]
    exact Nat.lt_of_le_of_lt (by rw [Int.natAbs_ediv_of_dvd]; exact Nat.div_le_self _ _; exact Int.ofNat_dvd_left.mpr (Nat.gcd_dvd_right _ _)) n3
  · rw [e, Rat.den_mkRat, if_neg (by omega)]
    exact Nat.lt_of_le_of_lt (Nat.div_le_self _ _) hd
theorem Sm.neg {a : Nat} {x : Rat} (h : Sm a x) : Sm a (-x) := ⟨by rw [Rat.neg_num, Int.natAbs_neg]; exact h.1, h.2⟩
theorem Sm.sub {a b : Nat} {x y : Rat} (h1 : Sm a x) (h2 : Sm b y) : Sm (a + b + 1) (x - y) := by
  rw [Rat.sub_eq_add_neg]; exact h1.add h2.neg
theorem Sm.inv {a : Nat} {x : Rat} (h : Sm a x) (ha : 0 < a) : Sm a (1 / x) := by
  rw [Rat.div_def, Rat.one_mul]
  constructor
  · rw [Rat.num_inv, Int.natAbs_mul, den_nat]
    have : x.num.sign.natAbs ≤ 1 := by
      rw [Int.natAbs_sign]
      split <;> omega
    exact Nat.lt_of_le_of_lt (Nat.mul_le_mul_right _ this) (by rw [Nat.one_mul]; exact h.2)
  · rw [Rat.den_inv]
    split
    · exact Nat.one_lt_two_pow (by omega)
    · exact h.1
theorem Sm.one : Sm 1 1 := ⟨by decide, by decide⟩
theorem Sm.zero : Sm 1 0 := ⟨by decide, by decide⟩
end G
end
section
set_option Elab.async false
set_option linter.all false
set_option maxRecDepth 100000
set_option maxHeartbeats 4000000
/-! comprehensions over what a call may give -/
namespace G
open PySem PySem.Spec PyProof.Rows L2
section
variable {K : PySem.W.Frag} {w : World} {ρ : List Sl} {ta tb te tl tm : TE} {d x : PyData} {ds : List PyData} {g : TG} {tt : TT} {vs : List Nat}
theorem itOk_enum {I : Hp} {a : Addr} {xs : List V} (h1 : SqL K I a xs) (h2 : DpAll K I xs ds) : ItOk (K := K) (Ite K a) I ((List.range ds.length).map fun (i : Nat) => .tuple [.int (i : Int), ds.getD i .none]) := by
  have hl : ((List.range ds.length).map fun (i : Nat) => PyData.tuple [.int (i : Int), ds.getD i .none]).length = ds.length := by rw [List.length_map, List.length_range]
  refine ⟨fun i I H e1 e2 hi => ?_, fun i I H x H' e1 e2 hi hy => ?_, fun I H e1 e2 => ⟨xs, e2.l (e1.l h1), by rw [hl, dpa_len h2]; exact Nat.le_refl _⟩⟩
  · rw [hl] at hi
    have hi' : i < xs.length := by rw [dpa_len h2]; exact hi
    exact ⟨xs, xs[i], e2.l (e1.l h1), List.getElem?_eq_getElem hi'⟩
  · rw [hl] at hi
    obtain ⟨T, x', rfl, hT, rfl, hx⟩ := hy
    have g := hx xs (e2.l (e1.l h1))
    obtain ⟨d, hd, hp⟩ := dpa_getV h2 g
    refine ⟨upd I T (.tup [.int (i : Nat), x']), .tuple [.int (i : Int), d], ?_, .new e2 hT, .tup (st_of upd_same) (.cons (.int _) (.cons (hp.ex (e1.trans (.new (e2.free hT)))) .nil))⟩
    rw [List.getElem?_map, List.getElem?_range hi]
    show some (PyData.tuple [.int (i : Int), ds.getD i .none]) = _
    rw [List.getD_eq_getElem?_getD, hd]
    rfl
/-- [val i for i, x in enumerate(f(..)) if ..] -/
theorem enr_lcE {A : (Nat → PyData) → Prop} (n : Nat) (hn : n ≤ 50000) (h : EvR K w tl ρ fun d => ∃ f, d = eF n f ∧ A f) (b : (Nat → PyData) → Nat → Bool) (val : Nat → PyData)
    (turn : ∀ f, A f → ∀ i, i < n → ∃ fn, TgOk K g vs (.tuple [eN i, f i]) fn ∧ EvB K w tt (fn (wipeS ρ vs)) (b f i) ∧ (b f i = true → EvD K w te (fn (wipeS ρ vs)) (val i))) :
    EvNR K w (tLc (iEnum K (tCons tl tNil)) g tt te vs) ρ fun ds => ∃ f, A f ∧ ds = ((List.range n).filter (b f)).map val := fun H0 I H σ e Q q => by
  refine h H0 I H σ e _ fun d v I1 H1 hd l1 hv => ?_
  obtain ⟨f, rfl, hA⟩ := hd
  obtain ⟨a, xs, rfl, h1, h2⟩ := dp_lst hv
  have it := itOk_enum (K := K) h1 h2
  have e0 : ((List.range ((List.range n).map f).length).map fun (i : Nat) => PyData.tuple [.int (i : Int), ((List.range n).map f).getD i .none]) = (List.range n).map fun i => .tuple [eN i, f i] := by
    rw [List.length_map, List.length_range]
    refine List.map_congr_left fun i hi => ?_
    rw [getDF f (List.mem_range.mp hi)]
    rfl
  rw [e0] at it
  refine ⟨a, xs, rfl, l1.ih.l h1, fun Dl hD => lc_any (Rs := fun i ds => ds = (((List.range n).take i).filter (b f)).map val) (e.mono l1) it (by rw [List.length_map, List.length_range]; exact hn) hD rfl (fun i ds h => ?_) (fun i d hd => ?_) fun ds xs I2 H2 hR l hin ho hd => ?_⟩
  · rw [h, List.length_map]
    exact Nat.le_trans (List.length_filter_le _ _) (by rw [List.length_take]; exact Nat.min_le_left _ _)
  · rw [List.getElem?_map] at hd
    cases hx : (List.range n)[i]? with
    | none => rw [hx] at hd; cases hd
    | some a =>
      rw [hx] at hd
      cases hd
      have hin : a < n := List.mem_range.mp (List.mem_of_getElem? hx)
      obtain ⟨fn, t1, t2, t3⟩ := turn f hA a hin
      refine ⟨fn, t1, b f a, t2, ?_⟩
      have et : (List.range n).take (i + 1) = (List.range n).take i ++ [a] := by rw [List.take_add_one, hx]; rfl
      cases hb : b f a with
      | true =>
        rw [if_pos rfl]
        refine (t3 hb).toR fun ds hds => ?_
        rw [hds, et, List.filter_append, List.map_append, List.filter_cons, if_pos hb]
        rfl
      | false =>
        rw [if_neg (by decide)]
        intro ds hds
        rw [hds, et, List.filter_append, List.map_append, List.filter_cons, if_neg (by rw [hb]; decide)]
        simp
  · have hR' : ds = (((List.range n).take (((List.range n).map fun i => PyData.tuple [eN i, f i]).length)).filter (b f)).map val := hR
    rw [List.length_map, List.take_length] at hR'
    exact q ds Dl xs I2 H2 ⟨f, hA, hR'⟩ (l1.trans l) (l1.h.free hD) hin ho hd
end
end G
end
section
set_option linter.all false
/-! elimination, one step: plain algebra -/
namespace G
theorem kd_self (i : Nat) : kd i i = 1 := if_pos rfl
theorem kd_ne {i k : Nat} (h : i ≠ k) : kd i k = 0 := if_neg h
theorem elim_at (p : Nat) (S : Nat → Nat → Rat) (i : Nat) : elim p S i p = 0 := if_pos rfl
theorem elim_ne {p k : Nat} (S : Nat → Nat → Rat) (i : Nat) (h : k ≠ p) : elim p S i k = S i k + S i p * (S p k / (1 - S p p)) := if_neg h
theorem elim_row {p k : Nat} (S : Nat → Nat → Rat) (h : k ≠ p) (h0 : 1 - S p p ≠ 0) : elim p S p k = 1 / (1 - S p p) * S p k := by
  rw [elim_ne S p h]; grind
/-- the pivot's line, scaled -/
theorem step_p {t : Nat} (S : Nat → Nat → Rat) (k : Nat) (h0 : 1 - S t t ≠ 0) : 1 / (1 - S t t) * (kd t k - S t k) = kd t k - elim t S t k := by
  by_cases h : k = t
  · subst h; rw [elim_at, kd_self]; grind
  · rw [elim_row S h h0, kd_ne (fun z => h z.symm)]; grind
/-- another line, less as much of it as makes the variable go -/
theorem step_i {t i : Nat} (S : Nat → Nat → Rat) (k : Nat) (h0 : 1 - S t t ≠ 0) (hi : i ≠ t) : kd i k - S i k - (kd i t - S i t) * (kd t k - elim t S t k) = kd i k - elim t S i k := by
  by_cases h : k = t
  · subst h; rw [elim_at, elim_at, kd_self, kd_ne hi]; grind
  · rw [elim_row S h h0, elim_ne S i h, kd_ne hi, kd_ne (fun z => h z.symm)]; grind
theorem step_b {t i : Nat} (S : Nat → Nat → Rat) (k : Nat) (h0 : 1 - S t t ≠ 0) (hi : i ≠ t) (h : k ≠ t) : S i k - (kd i t - S i t) * elim t S t k = elim t S i k := by
  rw [elim_row S h h0, elim_ne S i h, kd_ne hi]; grind
end G
namespace G
/-- the chance to go on to x -/
def psum (bs : List (Rat × Nat)) (x : Nat) : Rat := (bs.map fun b => if b.2 = x then b.1 else 0).sum
def inU (m : Nat) (u : Nat → Nat) (x : Nat) : Bool := (List.range m).any fun k => decide (u k = x)
/-- what is known of the other targets -/
def osum (m : Nat) (u : Nat → Nat) (kn : Nat → Rat) (bs : List (Rat × Nat)) : Rat := (bs.map fun b => if inU m u b.2 = true then 0 else b.1 * kn b.2).sum
theorem inU_iff {m : Nat} {u : Nat → Nat} {x : Nat} : inU m u x = true ↔ ∃ k, k < m ∧ u k = x := by
  unfold inU
  rw [List.any_eq_true]
  constructor
  · rintro ⟨k, h1, h2⟩; exact ⟨k, List.mem_range.mp h1, of_decide_eq_true h2⟩
  · rintro ⟨k, h1, h2⟩; exact ⟨k, List.mem_range.mpr h1, decide_eq_true h2⟩
theorem sum_snoc (l : List Rat) (x : Rat) : (l ++ [x]).sum = l.sum + x := by
  rw [List.sum_append, List.sum_cons, List.sum_nil, Rat.add_zero]
theorem psum_snoc (bs : List (Rat × Nat)) (b : Rat × Nat) (x : Nat) : psum (bs ++ [b]) x = psum bs x + if b.2 = x then b.1 else 0 := by
  unfold psum
  rw [List.map_append]
  exact sum_snoc _ _
theorem osum_snoc (m : Nat) (u : Nat → Nat) (kn : Nat → Rat) (bs : List (Rat × Nat)) (b : Rat × Nat) : osum m u kn (bs ++ [b]) = osum m u kn bs + if inU m u b.2 = true then 0 else b.1 * kn b.2 := by
  unfold osum
  rw [List.map_append]
  exact sum_snoc _ _
/-- the system of the places u 0, .. u (m - 1) of a chain -/
def sysG (c : Game) (m : Nat) (u : Nat → Nat) (kn : Nat → Rat) : Nat → Nat → Rat := fun i k => if k < m then psum (pat c (u i)).br (u k) else if k = m then osum m u kn (pat c (u i)).br else kd i (k - (m + 1))
end G
namespace G
/-- whether, by classical reasons -/
noncomputable def cd (p : Prop) : Bool := @decide p (Classical.propDecidable p)
theorem cd_iff {p : Prop} : cd p = true ↔ p := @decide_eq_true_iff p (Classical.propDecidable p)
noncomputable section
/-- the places that are neither a finish nor without a chance, ascending -/
def unk (c : Game) : List Nat := (List.range c.length).filter fun i => cd (Rf c i ∧ (pat c i).isFin = false)
def uk (c : Game) (k : Nat) : Nat := (unk c).getD k 0
def kn (c : Game) (i : Nat) : Rat := if (pat c i).isFin = true then 1 else 0
/-- what the elimination of a chain's system gives -/
def sol (c : Game) (k : Nat) : Rat := stage (sysG c (unk c).length (uk c) (kn c)) (unk c).length k (unk c).length
end
structure CvOk (c : Game) (f : Nat → Rat) : Prop where
  one : ∀ i, i < c.length → (pat c i).isFin = true → f i = 1
  at_ : ∀ k, k < (unk c).length → f (uk c k) = sol c k
  zero : ∀ i, i < c.length → (pat c i).isFin = false → (∀ k, k < (unk c).length → uk c k ≠ i) → f i = 0
theorem mem_unk {c : Game} {i : Nat} : i ∈ unk c ↔ i < c.length ∧ Rf c i ∧ (pat c i).isFin = false := by
  unfold unk
  rw [List.mem_filter, List.mem_range, cd_iff]
theorem unk_nodup (c : Game) : (unk c).Nodup := List.nodup_range.filter _
theorem uk_get {c : Game} {k : Nat} (h : k < (unk c).length) : (unk c)[k]? = some (uk c k) := by
  unfold uk
  rw [List.getD_eq_getElem?_getD, List.getElem?_eq_getElem h]; rfl
theorem uk_mem {c : Game} {k : Nat} (h : k < (unk c).length) : uk c k ∈ unk c := List.mem_of_getElem? (uk_get h)
theorem uk_inj {c : Game} {i j : Nat} (hi : i < (unk c).length) (hj : j < (unk c).length) (e : uk c i = uk c j) : i = j := by
  have h1 := uk_get hi
  have h2 := uk_get hj
  rw [e] at h1
  exact (List.getElem?_inj hi (unk_nodup c)).mp (h1.trans h2.symm)
theorem unk_eq (c : Game) : unk c = (List.range (unk c).length).map (uk c) := by
  apply List.ext_getElem?
  intro j
  rw [List.getElem?_map]
  by_cases h : j < (unk c).length
  · rw [List.getElem?_range h, uk_get h]; rfl
  · rw [List.getElem?_eq_none (by omega), List.getElem?_eq_none (by rw [List.length_range]; omega)]; rfl
theorem rf_reach {c : Game} {i : Nat} : Rf c i ↔ ∃ x, Reach c i x ∧ (pat c x).isFin = true := by
  constructor
  · intro h
    induction h with
    | fin h => exact ⟨_, .refl _, h⟩
    | step h1 _ ih => obtain ⟨x, h2, h3⟩ := ih; exact ⟨x, .step h1 h2, h3⟩
  · rintro ⟨x, h1, h2⟩
    induction h1 with
    | refl p => exact .fin h2
    | step h3 _ ih => exact .step h3 (ih h2)
end G
namespace G
/-- some rank is given to the place, where rk tells which have one -/
def chB (p : Pl) (rk : Nat → Bool) : Bool :=
  match p with
  | .draw _ => p.tgs.any rk
  | .ours _ => p.tgs.any rk
  | .lose => false
  | _ => p.tgs.all rk
/-- with some chance, whatever the others do -/
inductive Rk (g : Game) : Nat → Prop
  | fin {p : Nat} : (pat g p).isFin = true → Rk g p
  | any {p t : Nat} {bs : List (Rat × Nat)} : pat g p = .draw bs → t ∈ (pat g p).tgs → Rk g t → Rk g p
  | own {p t : Nat} {ts : List Nat} : pat g p = .ours ts → t ∈ (pat g p).tgs → Rk g t → Rk g p
  | all {p : Nat} {ts : List Nat} : pat g p = .theirs ts → (∀ t ∈ (pat g p).tgs, Rk g t) → Rk g p
  | one {p x : Nat} {r : Rat} : pat g p = .reward r x → Rk g x → Rk g p
/-- the places of no chance -/
structure NcOk (g : Game) (N : List Nat) : Prop where
  lt : ∀ i ∈ N, i < g.length
  out : ∀ i, i < g.length → i ∉ N → Rk g i
  nofin : ∀ i ∈ N, (pat g i).isFin = false
  cl : ∀ i ∈ N, chB (pat g i) (fun t => !decide (t ∈ N)) = false
theorem rk_of {g : Game} {i : Nat} {rk : Nat → Bool} (h : chB (pat g i) rk = true) (hs : ∀ t ∈ (pat g i).tgs, rk t = true → Rk g t) : Rk g i := by
  cases hp : pat g i with
  | draw bs =>
    rw [hp] at h
    have h' : (Pl.draw bs).tgs.any rk = true := h
    obtain ⟨t, h1, h2⟩ := List.any_eq_true.mp h'
    exact .any hp (by rw [hp]; exact h1) (hs t (by rw [hp]; exact h1) h2)
  | ours ts =>
    rw [hp] at h
    have h' : (Pl.ours ts).tgs.any rk = true := h
    obtain ⟨t, h1, h2⟩ := List.any_eq_true.mp h'
    exact .own hp (by rw [hp]; exact h1) (hs t (by rw [hp]; exact h1) h2)
  | theirs ts =>
    rw [hp] at h
    have h' : (Pl.theirs ts).tgs.all rk = true := h
    exact .all hp fun t ht => hs t ht (List.all_eq_true.mp h' t (by rw [hp] at ht; exact ht))
  | reward r x =>
    rw [hp] at h
    have h' : (Pl.reward r x).tgs.all rk = true := h
    exact .one hp (hs x (by rw [hp]; exact List.mem_singleton_self x) (List.all_eq_true.mp h' x (List.mem_singleton_self x)))
  | fin => exact .fin (by rw [hp]; rfl)
  | lose => rw [hp] at h; cases h
theorem chB_mono {p : Pl} {rk rk' : Nat → Bool} (h : ∀ t ∈ p.tgs, rk t = rk' t) : chB p rk = chB p rk' := by
  have h1 : p.tgs.any rk = p.tgs.any rk' := by
    rw [Bool.eq_iff_iff, List.any_eq_true, List.any_eq_true]
    constructor
    · rintro ⟨t, a, b⟩; exact ⟨t, a, by rw [← h t a]; exact b⟩
    · rintro ⟨t, a, b⟩; exact ⟨t, a, by rw [h t a]; exact b⟩
  have h2 : p.tgs.all rk = p.tgs.all rk' := by
    rw [Bool.eq_iff_iff, List.all_eq_true, List.all_eq_true]
    constructor
    · intro z t a; rw [← h t a]; exact z t a
    · intro z t a; rw [h t a]; exact z t a
  cases p with
  | draw bs => exact h1
  | ours ts => exact h1
  | lose => rfl
  | theirs ts => exact h2
  | reward r x => exact h2
  | fin => exact h2
end G
namespace G
/-- better for the side -/
def btr (s : Sd) (x y : Rat) : Prop := match s with
  | .us => y < x
  | .them => x < y
/-- the branch that a strategy tells at a place -/
def chz (st : Strat) (i : Nat) : Nat := (st.getD i none).getD 0
/-- the target that it tells -/
def tgt (g : Game) (st : Strat) (i : Nat) : Nat := (pat g i).tgs.getD (chz st i) 0
/-- a strategy, made better by numbers -/
structure BtOk (s : Sd) (g : Game) (st : Strat) (v : Nat → Rat) (st' : Strat) : Prop where
  ok : StOk s g st'
  top : ∀ i, i < g.length → (pat g i).side = some s → ∀ t ∈ (pat g i).tgs, ¬ btr s (v t) (v (tgt g st' i))
  up : ∀ i, i < g.length → (pat g i).side = some s → st'.getD i none ≠ st.getD i none → btr s (v (tgt g st' i)) (v (tgt g st i))
end G
namespace G
theorem put_len (s : Sd) (g : Game) (st : Strat) : (put s g st).length = g.length := by
  unfold put
  rw [List.length_map, List.length_range]
theorem pat_put {s : Sd} {g : Game} {st : Strat} {i : Nat} (h : i < g.length) : pat (put s g st) i = putP s (pat g i) (st.getD i none) := by
  unfold put
  conv => lhs; unfold pat
  rw [List.getD_eq_getElem?_getD, List.getElem?_map, List.getElem?_range h]
  rfl
theorem put_out {s : Sd} {g : Game} {st : Strat} {i : Nat} (h : i < g.length) (hs : (pat g i).side ≠ some s) : pat (put s g st) i = pat g i := by
  rw [pat_put h]; exact if_neg hs
theorem put_in {s : Sd} {g : Game} {st : Strat} {i : Nat} (h : i < g.length) (hs : (pat g i).side = some s) : pat (put s g st) i = .draw [(1, tgt g st i)] := by
  rw [pat_put h]; exact if_pos hs
theorem put_side {s s' : Sd} {g : Game} {st : Strat} {i : Nat} (h : i < g.length) (hne : s' ≠ s) : (pat (put s g st) i).side = some s' ↔ (pat g i).side = some s' := by
  by_cases hs : (pat g i).side = some s
  · rw [put_in h hs, hs]
    constructor
    · intro z; cases z
    · intro z; exact absurd (Option.some.inj z).symm hne
  · rw [put_out h hs]
theorem stok_put {s s' : Sd} {g : Game} {st st' : Strat} (hne : s' ≠ s) (h : StOk s' g st') : StOk s' (put s g st) st' := by
  refine ⟨by rw [put_len]; exact h.len, fun i hi hs => ?_, fun i hi hs => ?_⟩
  · rw [put_len] at hi
    have h1 := (put_side hi hne).mp hs
    obtain ⟨b, h2, h3⟩ := h.yes i hi h1
    refine ⟨b, h2, ?_⟩
    rw [put_out hi (by rw [h1]; exact fun z => hne (Option.some.inj z))]
    exact h3
  · rw [put_len] at hi
    exact h.no i hi fun z => hs ((put_side hi hne).mpr z)
theorem stok_unput {s s' : Sd} {g : Game} {st st' : Strat} (hne : s' ≠ s) (h : StOk s' (put s g st) st') : StOk s' g st' := by
  refine ⟨by rw [h.len, put_len], fun i hi hs => ?_, fun i hi hs => ?_⟩
  · obtain ⟨b, h2, h3⟩ := h.yes i (by rw [put_len]; exact hi) ((put_side hi hne).mpr hs)
    refine ⟨b, h2, ?_⟩
    rw [put_out hi (by rw [hs]; exact fun z => hne (Option.some.inj z))] at h3
    exact h3
  · exact h.no i (by rw [put_len]; exact hi) fun z => hs ((put_side hi hne).mp z)
/-- the chain of two strategies -/
def ch2 (g : Game) (so st : Strat) : Game := put .them (put .us g so) st
theorem ch2_len (g : Game) (so st : Strat) : (ch2 g so st).length = g.length := by
  unfold ch2
  rw [put_len, put_len]
end G
end
section
set_option linter.all false
/-! elimination of a chain's system: signs, the principle of the greatest, what a stage is -/
namespace G
def sg : Nat → (Nat → Rat) → Rat
  | 0, _ => 0
  | n + 1, f => sg n f + f n
theorem sg_congr : ∀ {n : Nat} {f g : Nat → Rat}, (∀ i, i < n → f i = g i) → sg n f = sg n g
  | 0, _, _, _ => rfl
  | n + 1, f, g, h => by
    show sg n f + f n = sg n g + g n
    rw [sg_congr (n := n) fun i hi => h i (by omega), h n (by omega)]
theorem sg_le : ∀ {n : Nat} {f g : Nat → Rat}, (∀ i, i < n → f i ≤ g i) → sg n f ≤ sg n g
  | 0, _, _, _ => Rat.le_refl
  | n + 1, f, g, h => by
    show sg n f + f n ≤ sg n g + g n
    have h1 := sg_le (n := n) (f := f) (g := g) fun i hi => h i (by omega)
    have h2 := h n (by omega)
    grind
theorem sg_add : ∀ (n : Nat) (f g : Nat → Rat), sg n (fun i => f i + g i) = sg n f + sg n g
  | 0, _, _ => by show (0 : Rat) = 0 + 0; grind
  | n + 1, f, g => by
    show sg n (fun i => f i + g i) + (f n + g n) = (sg n f + f n) + (sg n g + g n)
    rw [sg_add n f g]; grind
theorem sg_mul : ∀ (n : Nat) (c : Rat) (f : Nat → Rat), sg n (fun i => c * f i) = c * sg n f
  | 0, _, _ => by show (0 : Rat) = _ * 0; grind
  | n + 1, c, f => by
    show sg n (fun i => c * f i) + c * f n = c * (sg n f + f n)
    rw [sg_mul n c f]; grind
theorem sg_zero : ∀ (n : Nat), sg n (fun _ => 0) = 0
  | 0 => rfl
  | n + 1 => by show sg n (fun _ => 0) + 0 = 0; rw [sg_zero n]; grind
theorem sg_nonneg {n : Nat} {f : Nat → Rat} (h : ∀ i, i < n → 0 ≤ f i) : 0 ≤ sg n f := by
  rw [← sg_zero n]; exact sg_le h
theorem sg_one : ∀ {n : Nat} {f : Nat → Rat} {i : Nat}, (∀ i, i < n → 0 ≤ f i) → i < n → f i ≤ sg n f
  | n + 1, f, i, h, hi => by
    show f i ≤ sg n f + f n
    by_cases e : i = n
    · subst e
      have := sg_nonneg (n := i) (f := f) fun j hj => h j (by omega)
      grind
    · have h1 := sg_one (n := n) (f := f) (i := i) (fun j hj => h j (by omega)) (by omega)
      have h2 := h n (by omega)
      grind
theorem sg_hole : ∀ {n s : Nat} (a : Nat → Rat), s < n → sg n (fun l => if l = s then 0 else a l) = sg n a - a s
  | n + 1, s, a, h => by
    show sg n (fun l => if l = s then 0 else a l) + (if n = s then 0 else a n) = sg n a + a n - a s
    by_cases e : n = s
    · subst e
      rw [if_pos rfl, sg_congr (g := a) fun i hi => if_neg (by omega)]; grind
    · rw [if_neg e, sg_hole (n := n) a (by omega)]; grind
/-- the exit is reached -/
inductive Rs (m : Nat) (S : Nat → Nat → Rat) : Nat → Prop
  | out {i : Nat} : 0 < S i m → Rs m S i
  | go {i k : Nat} : k < m → 0 < S i k → Rs m S k → Rs m S i
structure Sy (m : Nat) (S : Nat → Nat → Rat) : Prop where
  nn : ∀ i, i < m → ∀ k, 0 ≤ S i k
  le : ∀ i, i < m → sg m (fun l => S i l) + S i m ≤ 1
  rs : ∀ i, i < m → Rs m S i
theorem Sy.le1 {m : Nat} {S : Nat → Nat → Rat} (h : Sy m S) {i k : Nat} (hi : i < m) (hk : k ≤ m) : S i k ≤ 1 := by
  have h1 := h.le i hi
  have h2 := h.nn i hi m
  have h3 : 0 ≤ sg m (fun l => S i l) := sg_nonneg fun l _ => h.nn i hi l
  by_cases e : k = m
  · subst e; grind
  · have h4 := sg_one (n := m) (f := fun l => S i l) (i := k) (fun l _ => h.nn i hi l) (by omega)
    have h5 : S i k ≤ sg m (fun l => S i l) := h4
    grind
theorem Sy.piv {m : Nat} {S : Nat → Nat → Rat} (h : Sy m S) {t : Nat} (ht : t < m) : 0 < 1 - S t t := by
  have key : ∀ i, Rs m S i → i = t → ¬ (1 ≤ S t t) := fun i r => by
    induction r with
    | @out i h1 =>
      intro e h2
      subst e
      have h3 := h.le i ht
      have h4 := sg_one (n := m) (f := fun l => S i l) (i := i) (fun l _ => h.nn i ht l) ht
      have h5 : S i i ≤ sg m (fun l => S i l) := h4
      grind
    | @go i k hk h1 r ih =>
      intro e h2
      subst e
      by_cases ek : k = i
      · exact ih ek h2
      · have h3 := h.le i ht
        have h4 := sg_hole (n := m) (s := i) (fun l => S i l) ht
        have h5 := sg_one (n := m) (f := fun l => if l = i then 0 else S i l) (i := k) (fun l _ => by
          show 0 ≤ if l = i then 0 else S i l
          split
          · exact Rat.le_refl
          · exact h.nn i ht l) hk
        have h6 : S i k ≤ sg m (fun l => if l = i then 0 else S i l) := by
          have e7 : (fun l => if l = i then (0 : Rat) else S i l) k = S i k := if_neg ek
          rw [← e7]; exact h5
        have h8 := h.nn i ht m
        rw [h4] at h6
        have h9 : (fun l => S i l) i = S i i := rfl
        grind
  have := key t (h.rs t ht) rfl
  grind
theorem div_le' {a b c : Rat} (hb : 0 < b) : a / b ≤ c ↔ a ≤ c * b := by
  rw [← Rat.not_lt, ← Rat.not_lt, Rat.lt_div_iff hb]
theorem le_div' {a b c : Rat} (hc : 0 < c) : a ≤ b / c ↔ a * c ≤ b := by
  rw [← Rat.not_lt, ← Rat.not_lt, Rat.div_lt_iff hc]
theorem div_nonneg' {a b : Rat} (ha : 0 ≤ a) (hb : 0 < b) : 0 ≤ a / b := by
  rw [Rat.div_def]; exact Rat.mul_nonneg ha (Rat.le_of_lt (Rat.inv_pos.mpr hb))
theorem div_pos' {a b : Rat} (ha : 0 < a) (hb : 0 < b) : 0 < a / b := by
  rw [Rat.div_def]; exact Rat.mul_pos ha (Rat.inv_pos.mpr hb)
theorem sg_elim {m t : Nat} (S : Nat → Nat → Rat) (i : Nat) (ht : t < m) : sg m (fun l => elim t S i l) = (sg m (fun l => S i l) - S i t) + S i t * ((sg m (fun l => S t l) - S t t) / (1 - S t t)) := by
  have e : sg m (fun l => elim t S i l) = sg m (fun l => (if l = t then 0 else S i l) + (S i t / (1 - S t t)) * (if l = t then 0 else S t l)) := sg_congr fun l _ => by
    by_cases h : l = t
    · subst h; rw [elim_at, if_pos rfl, if_pos rfl]; grind
    · rw [elim_ne S i h, if_neg h, if_neg h]; grind
  rw [e, sg_add, sg_mul, sg_hole _ ht, sg_hole _ ht]
  grind
theorem Sy.step {m : Nat} {S : Nat → Nat → Rat} (h : Sy m S) {t : Nat} (ht : t < m) : Sy m (elim t S) := by
  have hp := h.piv ht
  have hnn : ∀ i, i < m → ∀ k, 0 ≤ elim t S i k := fun i hi k => by
    by_cases e : k = t
    · rw [e, elim_at]; exact Rat.le_refl
    · rw [elim_ne S i e]
      exact Rat.add_nonneg (h.nn i hi k) (Rat.mul_nonneg (h.nn i hi t) (div_nonneg' (h.nn t ht k) hp))
  refine ⟨hnn, fun i hi => ?_, fun i hi => ?_⟩
  · rw [sg_elim S i ht, elim_ne S i (by omega)]
    have h1 := h.le i hi
    have h2 := h.le t ht
    have h3 := h.nn i hi t
    have h4 : (sg m (fun l => S t l) - S t t) / (1 - S t t) + S t m / (1 - S t t) ≤ 1 := by
      have h5 : (sg m (fun l => S t l) - S t t) / (1 - S t t) + S t m / (1 - S t t) = (sg m (fun l => S t l) - S t t + S t m) / (1 - S t t) := by grind
      rw [h5, div_le' hp]; grind
    have h6 := Rat.mul_le_mul_of_nonneg_left h4 h3
    grind
  · have key : ∀ i, Rs m S i → i < m → Rs m (elim t S) i := fun i r => by
      induction r with
      | @out i h1 =>
        intro hi
        refine .out ?_
        rw [elim_ne S i (by omega)]
        have := Rat.mul_nonneg (h.nn i hi t) (div_nonneg' (h.nn t ht m) hp)
        grind
      | @go i k hk h1 r ih =>
        intro hi
        have r' := ih hk
        have hmono : ∀ l, l ≠ t → S i l ≤ elim t S i l := fun l hl => by
          rw [elim_ne S i hl]
          have := Rat.mul_nonneg (h.nn i hi t) (div_nonneg' (h.nn t ht l) hp)
          grind
        by_cases e : k = t
        · subst e
          have via : ∀ l, l ≠ k → 0 < elim k S k l → 0 < elim k S i l := fun l hl hlt => by
            rw [elim_row S hl (by grind)] at hlt
            rw [elim_ne S i hl]
            have h8 : 0 < S i k * (S k l / (1 - S k k)) := Rat.mul_pos h1 (by
              have : S k l / (1 - S k k) = 1 / (1 - S k k) * S k l := by grind
              rw [this]; exact hlt)
            have h9 := h.nn i hi l
            grind
          cases r' with
          | out h2 => exact .out (via m (by omega) h2)
          | @go _ l hl h2 r2 =>
            have hne : l ≠ k := fun z => by
              subst z; rw [elim_at] at h2; exact absurd h2 (by decide)
            exact .go hl (via l hne h2) r2
        · have h2 := hmono k e
          exact .go hk (by grind) r'
    exact key i (h.rs i hi) hi
theorem Sy.stage {m : Nat} {S : Nat → Nat → Rat} (h : Sy m S) : ∀ t, t ≤ m → Sy m (G.stage S t)
  | 0, _ => h
  | t + 1, ht => (Sy.stage h t (by omega)).step (by omega)
theorem stage_zero (S : Nat → Nat → Rat) : ∀ (t i k : Nat), k < t → stage S t i k = 0
  | t + 1, i, k, h => by
    show elim t (stage S t) i k = 0
    by_cases e : k = t
    · rw [e, elim_at]
    · rw [elim_ne _ _ e, stage_zero S t i k (by omega), stage_zero S t t k (by omega)]; grind
/-- what a stage is: the lines of the first t solved, put into the first lines -/
theorem stage_is {m : Nat} {P : Nat → Nat → Rat} (h : Sy m P) (i : Nat) : ∀ t, t ≤ m → ∀ k, t ≤ k → stage P t i k = P i k + sg t (fun l => P i l * stage P t l k)
  | 0, _, k, _ => by show P i k = P i k + 0; grind
  | t + 1, ht, k, hk => by
    have hp := (h.stage t (by omega)).piv (t := t) (by omega)
    have ih1 := stage_is h i t (by omega) k (by omega)
    have ih2 := stage_is h i t (by omega) t (Nat.le_refl t)
    show elim t (stage P t) i k = P i k + (sg t (fun l => P i l * elim t (stage P t) l k) + P i t * elim t (stage P t) t k)
    have e : sg t (fun l => P i l * elim t (stage P t) l k) = sg t (fun l => P i l * stage P t l k + (stage P t t k / (1 - stage P t t t)) * (P i l * stage P t l t)) := sg_congr fun l _ => by
      rw [elim_ne _ _ (by omega)]; grind
    rw [e, sg_add, sg_mul, elim_ne _ i (by omega), elim_row _ (by omega) (by grind)]
    grind
/-- the principle of the greatest, stage by stage -/
theorem mp_stage {m : Nat} {P : Nat → Nat → Rat} (h : Sy m P) {t : Nat} (ht : t ≤ m) {c : Rat} {x : Nat → Rat} (hx : ∀ j, j < t → x j ≤ c * P j m + sg t (fun l => P j l * x l)) : ∀ s, s ≤ t → ∀ j, j < t → x j ≤ c * stage P s j m + sg t (fun l => stage P s j l * x l)
  | 0, _, j, hj => hx j hj
  | s + 1, hs, j, hj => by
    have ih := mp_stage h ht hx s (by omega)
    have hS := h.stage s (by omega)
    have hp := hS.piv (t := s) (by omega)
    have h1 := ih s (by omega)
    have h2 := ih j hj
    show x j ≤ c * elim s (stage P s) j m + sg t (fun l => elim s (stage P s) j l * x l)
    have e : sg t (fun l => elim s (stage P s) j l * x l) = sg t (fun l => (if l = s then 0 else stage P s j l * x l) + (stage P s j s / (1 - stage P s s s)) * (if l = s then 0 else stage P s s l * x l)) := sg_congr fun l _ => by
      by_cases e : l = s
      · rw [if_pos e, if_pos e, e, elim_at]; grind
      · rw [if_neg e, if_neg e, elim_ne _ _ e]; grind
    rw [e, sg_add, sg_mul, sg_hole _ (by omega), sg_hole _ (by omega), elim_ne _ j (by omega)]
    have hn := hS.nn j (by omega) s
    have h3 : x s ≤ (c * stage P s s m + (sg t (fun l => stage P s s l * x l) - stage P s s s * x s)) / (1 - stage P s s s) := by
      rw [le_div' hp]; grind
    have h4 := Rat.mul_le_mul_of_nonneg_left h3 hn
    grind
theorem mp {m : Nat} {P : Nat → Nat → Rat} (h : Sy m P) {t : Nat} (ht : t ≤ m) {x : Nat → Rat} (hx : ∀ j, j < t → x j ≤ sg t (fun l => P j l * x l)) : ∀ j, j < t → x j ≤ 0 := fun j hj => by
  have := mp_stage h ht (c := 0) (x := x) (fun j hj => by have := hx j hj; grind) t (Nat.le_refl t) j hj
  rw [sg_congr (g := fun _ => 0) fun l hl => by rw [stage_zero P t j l hl]; grind, sg_zero] at this
  grind
end G
end
section
set_option linter.all false
/-! the denominators of a chain's system, by counting -/
namespace G
def isI (x : Rat) : Prop := ∃ k : Int, x = (k : Rat)
theorem isI.add {x y : Rat} (h1 : isI x) (h2 : isI y) : isI (x + y) := by
  obtain ⟨a, rfl⟩ := h1; obtain ⟨b, rfl⟩ := h2
  exact ⟨a + b, (Rat.intCast_add a b).symm⟩
theorem isI.sub {x y : Rat} (h1 : isI x) (h2 : isI y) : isI (x - y) := by
  obtain ⟨a, rfl⟩ := h1; obtain ⟨b, rfl⟩ := h2
  exact ⟨a - b, (Rat.intCast_sub a b).symm⟩
theorem isI.mul {x y : Rat} (h1 : isI x) (h2 : isI y) : isI (x * y) := by
  obtain ⟨a, rfl⟩ := h1; obtain ⟨b, rfl⟩ := h2
  exact ⟨a * b, (Rat.intCast_mul a b).symm⟩
theorem isI.int (a : Int) : isI (a : Rat) := ⟨a, rfl⟩
theorem isI.nat (a : Nat) : isI (a : Rat) := ⟨a, (Rat.intCast_natCast a).symm⟩
theorem isI.zero : isI 0 := ⟨0, rfl⟩
theorem isI.one : isI 1 := ⟨1, rfl⟩
theorem isI.sg : ∀ {n : Nat} {f : Nat → Rat}, (∀ i, i < n → isI (f i)) → isI (G.sg n f)
  | 0, _, _ => isI.zero
  | n + 1, f, h => (isI.sg (n := n) fun i hi => h i (by omega)).add (h n (by omega))
theorem nodup_le2 : ∀ (n : Nat) (A : List Nat), A.Nodup → (∀ a ∈ A, a < n) → A.length ≤ n
  | 0, A, _, h => by
    cases A with
    | nil => exact Nat.le_refl _
    | cons a r => exact absurd (h a List.mem_cons_self) (by omega)
  | n + 1, A, hn, h => by
    have h2 := nodup_le2 n (A.filter fun a => decide (a ≠ n)) (hn.filter _) (fun a ha => by
      rw [List.mem_filter] at ha
      have := h a ha.1
      have := of_decide_eq_true ha.2
      omega)
    have h3 : A.length ≤ (A.filter fun a => decide (a ≠ n)).length + 1 := by
      clear h h2
      induction A with
      | nil => simp
      | cons a r ih =>
        have hr := (List.nodup_cons.mp hn).2
        have ha := (List.nodup_cons.mp hn).1
        by_cases e : a = n
        · subst e
          have : (r.filter fun x => decide (x ≠ a)) = r := List.filter_eq_self.mpr fun x hx => decide_eq_true fun z => ha (by rw [← z]; exact hx)
          rw [List.filter_cons, if_neg (by simp), this]
          exact Nat.le_refl _
        · rw [List.filter_cons, if_pos (decide_eq_true e), List.length_cons, List.length_cons]
          have := ih hr
          omega
    omega
theorem pigeon (N : Nat) (f : Nat → Nat) (h : ∀ n, n ≤ N → f n < N) : ∃ a b, a < b ∧ b ≤ N ∧ f a = f b := by
  refine Classical.byContradiction fun hno => ?_
  have hnd : ((List.range (N + 1)).map f).Nodup := by
    unfold List.Nodup
    rw [List.pairwise_map]
    refine List.Pairwise.imp_of_mem (R := fun a b => a < b) (fun {a b} ha hb hab e => hno ⟨a, b, hab, ?_, e⟩) List.pairwise_lt_range
    have := List.mem_range.mp hb
    omega
  have := nodup_le2 N _ hnd fun a ha => by
    obtain ⟨n, h1, rfl⟩ := List.mem_map.mp ha
    exact h n (by have := List.mem_range.mp h1; omega)
  rw [List.length_map, List.length_range] at this
  omega
def encT : Nat → (Nat → Nat) → Nat
  | 0, _ => 0
  | t + 1, z => encT t z + z t * 36 ^ t
theorem encT_lt : ∀ (t : Nat) (z : Nat → Nat), (∀ i, i < t → z i < 36) → encT t z < 36 ^ t
  | 0, _, _ => Nat.one_pos
  | t + 1, z, h => by
    have h1 := encT_lt t z fun i hi => h i (by omega)
    have h2 := h t (by omega)
    show encT t z + z t * 36 ^ t < 36 ^ (t + 1)
    have h3 : z t * 36 ^ t ≤ 35 * 36 ^ t := Nat.mul_le_mul_right _ (by omega)
    rw [Nat.pow_succ]
    omega
theorem encT_inj : ∀ (t : Nat) (y z : Nat → Nat), (∀ i, i < t → y i < 36) → (∀ i, i < t → z i < 36) → encT t y = encT t z → ∀ i, i < t → y i = z i
  | t + 1, y, z, hy, hz, e, i, hi => by
    have h1 := encT_lt t y fun i hi => hy i (by omega)
    have h2 := encT_lt t z fun i hi => hz i (by omega)
    have e' : encT t y + y t * 36 ^ t = encT t z + z t * 36 ^ t := e
    have ht : y t = z t := by
      have d1 : (encT t y + y t * 36 ^ t) / 36 ^ t = y t := by
        rw [Nat.add_mul_div_right _ _ (by exact Nat.pow_pos (by decide)), Nat.div_eq_of_lt h1, Nat.zero_add]
      have d2 : (encT t z + z t * 36 ^ t) / 36 ^ t = z t := by
        rw [Nat.add_mul_div_right _ _ (by exact Nat.pow_pos (by decide)), Nat.div_eq_of_lt h2, Nat.zero_add]
      rw [← d1, ← d2, e']
    by_cases hit : i = t
    · rw [hit, ht]
    · rw [ht] at e'
      exact encT_inj t y z (fun i hi => hy i (by omega)) (fun i hi => hz i (by omega)) (by omega) i (by omega)
theorem lattice {t : Nat} {q : Nat → Nat} {P : Nat → Nat → Rat} {b x : Nat → Rat} (hq : ∀ i, i < t → 0 < q i ∧ q i ≤ 18) (hP : ∀ i, i < t → ∀ l, l < t → 0 ≤ P i l ∧ isI ((q i : Rat) * P i l)) (hs : ∀ i, i < t → sg t (fun l => P i l) ≤ 1)
    (hb : ∀ i, i < t → isI ((q i : Rat) * b i)) (hx : ∀ i, i < t → x i = sg t (fun l => P i l * x l) + b i) (inj : ∀ y : Nat → Rat, (∀ i, i < t → y i = sg t (fun l => P i l * y l)) → ∀ i, i < t → y i = 0) :
    ∃ M : Nat, 1 ≤ M ∧ M ≤ 36 ^ t ∧ ∀ i, i < t → isI ((M : Rat) * x i) := by
  let fr : Nat → Nat → Rat := fun n i => (n : Rat) * x i - ((((n : Rat) * x i).floor : Int) : Rat)
  let y : Nat → Nat → Rat := fun n i => (q i : Rat) * (fr n i - sg t (fun l => P i l * fr n l))
  have fr0 : ∀ n i, 0 ≤ fr n i := fun n i => by
    have := Rat.floor_le ((n : Rat) * x i)
    show 0 ≤ (n : Rat) * x i - _
    grind
  have fr1 : ∀ n i, fr n i < 1 := fun n i => by
    have := @Rat.lt_floor ((n : Rat) * x i)
    show (n : Rat) * x i - _ < 1
    grind
  have sf0 : ∀ n i, i < t → 0 ≤ sg t (fun l => P i l * fr n l) := fun n i hi => sg_nonneg fun l hl => Rat.mul_nonneg (hP i hi l hl).1 (fr0 n l)
  have sf1 : ∀ n i, i < t → sg t (fun l => P i l * fr n l) ≤ 1 := fun n i hi => by
    have h1 := hs i hi
    have h2 : sg t (fun l => P i l * fr n l) ≤ sg t (fun l => P i l) := sg_le fun l hl => by
      have := Rat.mul_le_mul_of_nonneg_left (Rat.le_of_lt (fr1 n l)) (hP i hi l hl).1
      grind
    grind
  have yI : ∀ n i, i < t → isI (y n i) := fun n i hi => by
    have e : y n i = (n : Rat) * ((q i : Rat) * b i) - ((q i : Rat) * ((((n : Rat) * x i).floor : Int) : Rat) - sg t (fun l => ((q i : Rat) * P i l) * ((((n : Rat) * x l).floor : Int) : Rat))) := by
      have h1 : sg t (fun l => P i l * fr n l) = sg t (fun l => (n : Rat) * (P i l * x l) + (-1) * (P i l * ((((n : Rat) * x l).floor : Int) : Rat))) := sg_congr fun l _ => by
        show P i l * ((n : Rat) * x l - _) = _
        grind
      have h2 : sg t (fun l => ((q i : Rat) * P i l) * ((((n : Rat) * x l).floor : Int) : Rat)) = (q i : Rat) * sg t (fun l => P i l * ((((n : Rat) * x l).floor : Int) : Rat)) := by
        rw [← sg_mul]; exact sg_congr fun l _ => by grind
      show (q i : Rat) * (((n : Rat) * x i - ((((n : Rat) * x i).floor : Int) : Rat)) - sg t (fun l => P i l * fr n l)) = _
      rw [h1, sg_add, sg_mul, sg_mul, h2]
      have h3 := hx i hi
      grind
    rw [e]
    exact ((isI.nat n).mul (hb i hi)).sub (((isI.nat _).mul (isI.int _)).sub (isI.sg fun l hl => (hP i hi l hl).2.mul (isI.int _)))
  have ylo : ∀ n i, i < t → -18 ≤ y n i := fun n i hi => by
    have h1 := fr0 n i
    have h2 := sf1 n i hi
    have h3 : ((q i : Nat) : Rat) ≤ 18 := by exact_mod_cast (hq i hi).2
    have h4 : (0 : Rat) ≤ ((q i : Nat) : Rat) := Rat.natCast_nonneg
    have h5 : (-1 : Rat) ≤ fr n i - sg t (fun l => P i l * fr n l) := by grind
    have h6 := Rat.mul_le_mul_of_nonneg_left h5 h4
    show -18 ≤ (q i : Rat) * (fr n i - sg t (fun l => P i l * fr n l))
    grind
  have yhi : ∀ n i, i < t → y n i < 18 := fun n i hi => by
    have h1 := fr1 n i
    have h2 := sf0 n i hi
    have h3 : ((q i : Nat) : Rat) ≤ 18 := by exact_mod_cast (hq i hi).2
    have h4 : (0 : Rat) < ((q i : Nat) : Rat) := by exact_mod_cast (hq i hi).1
    have h5 : fr n i - sg t (fun l => P i l * fr n l) < 1 := by grind
    have h6 := (Rat.mul_lt_mul_left h4).mpr h5
    show (q i : Rat) * (fr n i - sg t (fun l => P i l * fr n l)) < 18
    grind
  let z : Nat → Nat → Nat := fun n i => ((y n i).floor + 18).toNat
  have zy : ∀ n i, i < t → (((z n i : Nat) : Int) : Rat) = y n i + 18 ∧ z n i < 36 := fun n i hi => by
    obtain ⟨k, hk⟩ := yI n i hi
    have h1 := ylo n i hi
    have h2 := yhi n i hi
    rw [hk] at h1 h2
    have h1' : (-18 : Int) ≤ k := Rat.intCast_le_intCast.mp h1
    have h2' : k < 18 := by exact_mod_cast h2
    have e : z n i = (k + 18).toNat := by
      show ((y n i).floor + 18).toNat = _
      rw [hk, Rat.floor_intCast]
    rw [e]
    constructor
    · rw [Int.toNat_of_nonneg (by omega), hk, Rat.intCast_add]; rfl
    · omega
  obtain ⟨a, c, hac, hc, he⟩ := pigeon (36 ^ t) (fun n => encT t (z n)) fun n _ => encT_lt t _ fun i hi => (zy n i hi).2
  have hzz := encT_inj t (z a) (z c) (fun i hi => (zy a i hi).2) (fun i hi => (zy c i hi).2) he
  have hyy : ∀ i, i < t → y a i = y c i := fun i hi => by
    have h1 := (zy a i hi).1
    have h2 := (zy c i hi).1
    rw [hzz i hi, h2] at h1
    grind
  have hff : ∀ i, i < t → fr c i - fr a i = 0 := inj (fun i => fr c i - fr a i) fun i hi => by
    have h1 := hyy i hi
    have h2 : sg t (fun l => P i l * (fr c l - fr a l)) = sg t (fun l => P i l * fr c l) - sg t (fun l => P i l * fr a l) := by
      have : sg t (fun l => P i l * (fr c l - fr a l)) = sg t (fun l => P i l * fr c l + (-1) * (P i l * fr a l)) := sg_congr fun l _ => by grind
      rw [this, sg_add, sg_mul]; grind
    have h4 : (0 : Rat) < ((q i : Nat) : Rat) := by exact_mod_cast (hq i hi).1
    have h5 : (q i : Rat) * (fr a i - sg t (fun l => P i l * fr a l)) = (q i : Rat) * (fr c i - sg t (fun l => P i l * fr c l)) := h1
    have h6 : fr a i - sg t (fun l => P i l * fr a l) = fr c i - sg t (fun l => P i l * fr c l) := by grind
    show fr c i - fr a i = sg t (fun l => P i l * (fr c l - fr a l))
    rw [h2]; grind
  refine ⟨c - a, by omega, by omega, fun i hi => ?_⟩
  have h1 := hff i hi
  have h2 : (((c - a : Nat)) : Rat) = (c : Rat) - (a : Rat) := by
    have : (((c - a : Nat)) : Rat) + (a : Rat) = (c : Rat) := by rw [← Rat.natCast_add]; congr 1; omega
    grind
  have h3 : (((c - a : Nat)) : Rat) * x i = ((((c : Rat) * x i).floor : Int) : Rat) - ((((a : Rat) * x i).floor : Int) : Rat) := by
    rw [h2]
    have h4 : ((c : Rat) * x i - ((((c : Rat) * x i).floor : Int) : Rat)) - ((a : Rat) * x i - ((((a : Rat) * x i).floor : Int) : Rat)) = 0 := h1
    grind
  rw [h3]
  exact (isI.int _).sub (isI.int _)
theorem den_of {x : Rat} {M : Nat} (hM : 0 < M) (h : isI ((M : Rat) * x)) : x.den ≤ M := by
  obtain ⟨k, hk⟩ := h
  have hM' : (0 : Rat) < (M : Rat) := by exact_mod_cast hM
  have e : x = mkRat k M := by
    rw [Rat.mkRat_eq_div, ← hk]; grind
  rw [e, Rat.den_mkRat, if_neg (by omega)]
  exact Nat.div_le_self _ _
theorem szq_of {x : Rat} {M B : Nat} (hM : 0 < M) (h : isI ((M : Rat) * x)) (h0 : 0 ≤ x) (h1 : x ≤ (B : Rat)) : x.den ≤ M ∧ x.num.natAbs ≤ B * M := by
  have hd := den_of hM h
  refine ⟨hd, ?_⟩
  have h2 : (x.num : Rat) = x * (x.den : Rat) := by
    have := Rat.mkRat_self x
    rw [Rat.mkRat_eq_div] at this
    have hp : (0 : Rat) < (x.den : Rat) := by exact_mod_cast x.den_pos
    grind
  have h3 : (x.num : Rat) ≤ ((B * x.den : Nat) : Rat) := by
    rw [h2, Rat.natCast_mul]
    exact Rat.mul_le_mul_of_nonneg_right h1 Rat.natCast_nonneg
  have h4 : 0 ≤ x.num := Rat.num_nonneg.mpr h0
  have h5 : x.num ≤ ((B * x.den : Nat) : Int) := by exact_mod_cast h3
  have h6 : B * x.den ≤ B * M := Nat.mul_le_mul_left _ hd
  omega
end G
end
section
set_option linter.all false
set_option exponentiation.threshold 2000
/-! the sizes of the stages of a chain's system -/
namespace G
structure Sq (m : Nat) (P : Nat → Nat → Rat) (q : Nat → Nat) : Prop where
  sy : Sy m P
  few : m ≤ 12
  dq : ∀ i, i < m → 0 < q i ∧ q i ≤ 18
  int : ∀ i, i < m → ∀ k, isI ((q i : Rat) * P i k)
  le1 : ∀ i, i < m → ∀ k, P i k ≤ 1
theorem Sq.inj {m : Nat} {P : Nat → Nat → Rat} (h : Sy m P) {t : Nat} (ht : t ≤ m) (y : Nat → Rat) (hy : ∀ i, i < t → y i = sg t (fun l => P i l * y l)) : ∀ i, i < t → y i = 0 := fun i hi => by
  have h1 := mp h ht (x := y) (fun j hj => by rw [← hy j hj]; exact Rat.le_refl) i hi
  have h2 := mp h ht (x := fun j => -y j) (fun j hj => by
    have e : sg t (fun l => P j l * -y l) = - sg t (fun l => P j l * y l) := by
      have : sg t (fun l => P j l * -y l) = sg t (fun l => (-1) * (P j l * y l)) := sg_congr fun l _ => by grind
      rw [this, sg_mul]; grind
    show -y j ≤ sg t (fun l => P j l * -y l)
    rw [e, ← hy j hj]; exact Rat.le_refl) i hi
  have h3 : -y i ≤ 0 := h2
  grind
theorem sub_sg {m t : Nat} {P : Nat → Nat → Rat} (h : Sy m P) (ht : t ≤ m) {i : Nat} (hi : i < m) : sg t (fun l => P i l) ≤ 1 := by
  have key : ∀ d, sg t (fun l => P i l) ≤ sg (t + d) (fun l => P i l) ∨ m < t + d := fun d => by
    induction d with
    | zero => exact .inl Rat.le_refl
    | succ d ih =>
      cases ih with
      | inr z => exact .inr (by omega)
      | inl z =>
        left
        show _ ≤ sg (t + d) (fun l => P i l) + P i (t + d)
        have := h.nn i hi (t + d)
        grind
  cases key (m - t) with
  | inr z => omega
  | inl z =>
    rw [show t + (m - t) = m by omega] at z
    have h1 := h.le i hi
    have h2 := h.nn i hi m
    grind
/-- a common denominator of a column, for the first lines -/
theorem Sq.col {m : Nat} {P : Nat → Nat → Rat} {q : Nat → Nat} (h : Sq m P q) {t : Nat} (ht : t ≤ m) (k : Nat) (hk : t ≤ k) : ∃ M : Nat, 1 ≤ M ∧ M ≤ 36 ^ t ∧ ∀ i, i < t → isI ((M : Rat) * stage P t i k) :=
  lattice (q := q) (P := P) (b := fun i => P i k) (x := fun i => stage P t i k) (fun i hi => h.dq i (by omega)) (fun i hi l hl => ⟨h.sy.nn i (by omega) l, h.int i (by omega) l⟩) (fun i hi => sub_sg h.sy ht (by omega)) (fun i hi => h.int i (by omega) k)
    (fun i hi => by have := stage_is h.sy i t ht k hk; show stage P t i k = _; grind) fun y hy => Sq.inj h.sy ht y hy
def CC : Nat := 18 * 36 ^ 12
theorem CC_lt : CC < 2 ^ 67 := by decide
theorem Sq.den {m : Nat} {P : Nat → Nat → Rat} {q : Nat → Nat} (h : Sq m P q) {t : Nat} (ht : t ≤ m) {i : Nat} (hi : i < m) (k : Nat) : ∃ M : Nat, 1 ≤ M ∧ M ≤ CC ∧ isI ((M : Rat) * stage P t i k) := by
  by_cases hk : k < t
  · exact ⟨1, Nat.le_refl 1, by decide, by rw [stage_zero P t i k hk, Rat.mul_zero]; exact isI.zero⟩
  · obtain ⟨M, h1, h2, h3⟩ := h.col ht k (by omega)
    have hM : q i * M ≤ CC := by
      have h4 : M ≤ 36 ^ 12 := Nat.le_trans h2 (Nat.pow_le_pow_right (by decide) (Nat.le_trans ht h.few))
      exact Nat.mul_le_mul (h.dq i hi).2 h4
    refine ⟨q i * M, Nat.mul_pos (h.dq i hi).1 h1, hM, ?_⟩
    rw [stage_is h.sy i t ht k (by omega), Rat.natCast_mul]
    have e : (q i : Rat) * (M : Rat) * (P i k + sg t (fun l => P i l * stage P t l k)) = (M : Rat) * ((q i : Rat) * P i k) + sg t (fun l => ((q i : Rat) * P i l) * ((M : Rat) * stage P t l k)) := by
      have e2 : sg t (fun l => ((q i : Rat) * P i l) * ((M : Rat) * stage P t l k)) = ((q i : Rat) * (M : Rat)) * sg t (fun l => P i l * stage P t l k) := by
        rw [← sg_mul]; exact sg_congr fun l _ => by grind
      rw [e2]; grind
    rw [e]
    exact ((isI.nat M).mul (h.int i hi k)).add (isI.sg fun l hl => (h.int i hi l).mul (h3 l hl))
theorem isI_pos {x : Rat} (h : isI x) (h0 : 0 < x) : 1 ≤ x := by
  obtain ⟨k, rfl⟩ := h
  have h1 : (0 : Int) < k := Rat.intCast_lt_intCast.mp h0
  exact Rat.intCast_le_intCast.mpr (show (1 : Int) ≤ k by omega)
theorem Sq.le {m : Nat} {P : Nat → Nat → Rat} {q : Nat → Nat} (h : Sq m P q) : ∀ t, t ≤ m → ∀ i, i < m → ∀ k, stage P t i k ≤ (((2 ^ 68) ^ t : Nat) : Rat)
  | 0, _, i, hi, k => h.le1 i hi k
  | t + 1, ht, i, hi, k => by
    have hS := h.sy.stage t (by omega)
    have h1 := Sq.le h t (by omega) i hi k
    have h2 := Sq.le h t (by omega) t (by omega) k
    have hp := hS.piv (t := t) (by omega)
    obtain ⟨M, m1, m2, m3⟩ := h.den (t := t) (by omega) (i := t) (by omega) t
    have hM0 : (0 : Rat) < (M : Rat) := by exact_mod_cast m1
    have h3 : 1 ≤ (M : Rat) * (1 - stage P t t t) := isI_pos (by
      have e : (M : Rat) * (1 - stage P t t t) = (M : Rat) - (M : Rat) * stage P t t t := by grind
      rw [e]; exact (isI.nat M).sub m3) (Rat.mul_pos hM0 hp)
    have hB : (0 : Rat) ≤ (((2 ^ 68) ^ t : Nat) : Rat) := Rat.natCast_nonneg
    have hMC : (M : Rat) + 1 ≤ ((2 ^ 68 : Nat) : Rat) := by
      have : M + 1 ≤ 2 ^ 68 := by have := CC_lt; omega
      have e : ((M + 1 : Nat) : Rat) = (M : Rat) + 1 := Rat.natCast_add M 1
      rw [← e]; exact_mod_cast this
    show elim t (stage P t) i k ≤ _
    have e2 : (((2 ^ 68) ^ (t + 1) : Nat) : Rat) = (((2 ^ 68) ^ t : Nat) : Rat) * ((2 ^ 68 : Nat) : Rat) := by rw [Nat.pow_succ, Rat.natCast_mul]
    have h9 := Rat.mul_le_mul_of_nonneg_left hMC hB
    have h10 := Rat.mul_nonneg hB (Rat.le_of_lt hM0)
    rw [e2]
    by_cases hk : k = t
    · rw [hk, elim_at]; grind
    · rw [elim_ne _ _ hk]
      have h4 : stage P t t k / (1 - stage P t t t) ≤ (((2 ^ 68) ^ t : Nat) : Rat) * (M : Rat) := by
        rw [div_le' hp]
        have h5 := Rat.mul_le_mul_of_nonneg_left h3 hB
        grind
      have h6 := hS.le1 hi (k := t) (by omega)
      have h7 := hS.nn i hi t
      have h8 : stage P t i t * (stage P t t k / (1 - stage P t t t)) ≤ 1 * ((((2 ^ 68) ^ t : Nat) : Rat) * (M : Rat)) := by
        have a1 := Rat.mul_le_mul_of_nonneg_left h4 h7
        have a2 := Rat.mul_le_mul_of_nonneg_right h6 h10
        grind
      grind
/-- the sizes, all columns -/
theorem Sq.sz {m : Nat} {P : Nat → Nat → Rat} {q : Nat → Nat} (h : Sq m P q) {t : Nat} (ht : t ≤ m) {i : Nat} (hi : i < m) (k : Nat) : (stage P t i k).num.natAbs < 2 ^ 900 ∧ (stage P t i k).den < 2 ^ 900 := by
  obtain ⟨M, m1, m2, m3⟩ := h.den ht hi k
  have h1 := h.le t ht i hi k
  have h2 : ((2 ^ 68) ^ t : Nat) ≤ 2 ^ 816 := by
    rw [← Nat.pow_mul]
    exact Nat.pow_le_pow_right (by decide) (by have := h.few; omega)
  have h3 : stage P t i k ≤ ((2 ^ 816 : Nat) : Rat) := Rat.le_trans h1 (Rat.natCast_le_natCast.mpr h2)
  obtain ⟨s1, s2⟩ := szq_of (B := 2 ^ 816) m1 m3 ((h.sy.stage t ht).nn i hi k) h3
  have hC : M ≤ 2 ^ 67 := by have := CC_lt; omega
  have h4 : 2 ^ 816 * M ≤ 2 ^ 816 * 2 ^ 67 := Nat.mul_le_mul_left _ hC
  have h5 : (2 : Nat) ^ 816 * 2 ^ 67 < 2 ^ 900 := by rw [← Nat.pow_add]; exact Nat.pow_lt_pow_right (by decide) (by decide)
  have h6 : (2 : Nat) ^ 67 < 2 ^ 900 := Nat.pow_lt_pow_right (by decide) (by decide)
  omega
/-- the sizes, but for the multipliers -/
theorem Sq.sz1 {m : Nat} {P : Nat → Nat → Rat} {q : Nat → Nat} (h : Sq m P q) {t : Nat} (ht : t ≤ m) {i : Nat} (hi : i < m) {k : Nat} (hk : k ≤ m) : (stage P t i k).num.natAbs < 2 ^ 67 ∧ (stage P t i k).den < 2 ^ 67 := by
  obtain ⟨M, m1, m2, m3⟩ := h.den ht hi k
  obtain ⟨s1, s2⟩ := szq_of (B := 1) m1 m3 ((h.sy.stage t ht).nn i hi k) ((h.sy.stage t ht).le1 hi hk)
  have := CC_lt
  omega
end G
end
section
set_option linter.all false
/-! a chain's system is as asked; the comparison of numbers of a chain -/
namespace G
theorem mean_nil (y : Nat → Rat) : mean [] y = 0 := rfl
theorem mean_cons (b : Rat × Nat) (bs : List (Rat × Nat)) (y : Nat → Rat) : mean (b :: bs) y = b.1 * y b.2 + mean bs y := by
  unfold mean; rw [List.map_cons, List.sum_cons]
theorem mean_congr {y z : Nat → Rat} : ∀ {bs : List (Rat × Nat)}, (∀ b ∈ bs, y b.2 = z b.2) → mean bs y = mean bs z
  | [], _ => rfl
  | b :: bs, h => by
    rw [mean_cons, mean_cons, h b List.mem_cons_self, mean_congr fun c hc => h c (List.mem_cons_of_mem _ hc)]
theorem mean_le {y z : Nat → Rat} : ∀ {bs : List (Rat × Nat)}, (∀ b ∈ bs, 0 ≤ b.1) → (∀ b ∈ bs, y b.2 ≤ z b.2) → mean bs y ≤ mean bs z
  | [], _, _ => Rat.le_refl
  | b :: bs, h0, h => by
    rw [mean_cons, mean_cons]
    have h1 := mean_le (bs := bs) (fun c hc => h0 c (List.mem_cons_of_mem _ hc)) fun c hc => h c (List.mem_cons_of_mem _ hc)
    have h2 := Rat.mul_le_mul_of_nonneg_left (h b List.mem_cons_self) (h0 b List.mem_cons_self)
    grind
theorem mean_sub (y z : Nat → Rat) : ∀ (bs : List (Rat × Nat)), mean bs (fun i => y i - z i) = mean bs y - mean bs z
  | [] => by show (0 : Rat) = 0 - 0; grind
  | b :: bs => by rw [mean_cons, mean_cons, mean_cons, mean_sub y z bs]; grind
theorem mean_neg (y : Nat → Rat) : ∀ (bs : List (Rat × Nat)), mean bs (fun i => - y i) = - mean bs y
  | [] => by show (0 : Rat) = - 0; grind
  | b :: bs => by rw [mean_cons, mean_cons, mean_neg y bs]; grind
theorem mean_const (c : Rat) : ∀ (bs : List (Rat × Nat)), mean bs (fun _ => c) = c * (bs.map (·.1)).sum
  | [] => by show (0 : Rat) = c * 0; grind
  | b :: bs => by rw [mean_cons, mean_const c bs, List.map_cons, List.sum_cons]; grind
theorem mean_one (bs : List (Rat × Nat)) : mean bs (fun _ => 1) = (bs.map (·.1)).sum := by rw [mean_const]; grind
/-- one of the numbers is seen in the mean -/
theorem mean_ge {y : Nat → Rat} : ∀ {bs : List (Rat × Nat)} {b : Rat × Nat}, (∀ b ∈ bs, 0 ≤ b.1 ∧ 0 ≤ y b.2) → b ∈ bs → b.1 * y b.2 ≤ mean bs y
  | c :: bs, b, h, hb => by
    rw [mean_cons]
    have h0 := Rat.mul_nonneg (h c List.mem_cons_self).1 (h c List.mem_cons_self).2
    cases hb with
    | head =>
      have h1 : 0 ≤ mean bs y := by
        have := mean_le (y := fun _ => 0) (z := y) (bs := bs) (fun d hd => (h d (List.mem_cons_of_mem _ hd)).1) fun d hd => (h d (List.mem_cons_of_mem _ hd)).2
        rw [mean_const] at this
        grind
      grind
    | tail _ hb =>
      have := mean_ge (fun d hd => h d (List.mem_cons_of_mem _ hd)) hb
      grind
/-- branches of a chain -/
structure BrOk (n : Nat) (bs : List (Rat × Nat)) : Prop where
  few : bs.length ≤ 6
  pos : ∀ b ∈ bs, 0 < b.1 ∧ b.2 < n
  one : (bs.map (·.1)).sum = 1
  den : ∃ q, Den q bs
theorem BrOk.nn {n : Nat} {bs : List (Rat × Nat)} (h : BrOk n bs) : ∀ b ∈ bs, 0 ≤ b.1 := fun b hb => Rat.le_of_lt (h.pos b hb).1
theorem BrOk.ch1 {n : Nat} {bs : List (Rat × Nat)} (h : BrOk n bs) {b : Rat × Nat} (hb : b ∈ bs) : b.1 ≤ 1 := by
  have := mean_ge (y := fun _ => 1) (bs := bs) (b := b) (fun c hc => ⟨h.nn c hc, by show (0 : Rat) ≤ 1; decide⟩) hb
  rw [mean_one, h.one] at this
  grind
theorem psum_mean (bs : List (Rat × Nat)) (x : Nat) : psum bs x = mean bs (fun i => if i = x then 1 else 0) := by
  unfold psum mean
  congr 1
  refine List.map_congr_left fun b _ => ?_
  split <;> grind
theorem osum_mean (m : Nat) (u : Nat → Nat) (y : Nat → Rat) (bs : List (Rat × Nat)) : osum m u y bs = mean bs (fun i => if inU m u i = true then 0 else y i) := by
  unfold osum mean
  congr 1
  refine List.map_congr_left fun b _ => ?_
  split <;> grind
theorem sg_at : ∀ {m : Nat} {u : Nat → Nat} (y : Nat → Rat) (x : Nat), (∀ i j, i < m → j < m → u i = u j → i = j) → sg m (fun k => (if x = u k then 1 else 0) * y (u k)) = if inU m u x = true then y x else 0
  | 0, u, y, x, _ => by
    rw [if_neg (by intro z; obtain ⟨k, h, _⟩ := inU_iff.mp z; omega)]; rfl
  | m + 1, u, y, x, hi => by
    have ih := sg_at (m := m) (u := u) y x fun i j h1 h2 => hi i j (by omega) (by omega)
    show sg m (fun k => (if x = u k then 1 else 0) * y (u k)) + (if x = u m then 1 else 0) * y (u m) = _
    rw [ih]
    by_cases h : x = u m
    · have hno : ¬ inU m u x = true := fun z => by
        obtain ⟨k, h1, h2⟩ := inU_iff.mp z
        have := hi k m (by omega) (by omega) (by rw [h2, h])
        omega
      rw [if_neg hno, if_pos h, if_pos (inU_iff.mpr ⟨m, by omega, h.symm⟩), ← h]
      grind
    · rw [if_neg h]
      by_cases h2 : inU m u x = true
      · obtain ⟨k, h3, h4⟩ := inU_iff.mp h2
        rw [if_pos h2, if_pos (inU_iff.mpr ⟨k, by omega, h4⟩)]
        grind
      · rw [if_neg h2, if_neg fun z => by
          obtain ⟨k, h3, h4⟩ := inU_iff.mp z
          by_cases e : k = m
          · subst e; exact h h4.symm
          · exact h2 (inU_iff.mpr ⟨k, by omega, h4⟩)]
        grind
theorem mean_split {m : Nat} {u : Nat → Nat} (y : Nat → Rat) (hi : ∀ i j, i < m → j < m → u i = u j → i = j) : ∀ (bs : List (Rat × Nat)), mean bs y = sg m (fun k => psum bs (u k) * y (u k)) + osum m u y bs
  | [] => by
    have e : sg m (fun k => psum [] (u k) * y (u k)) = sg m (fun _ => 0) := sg_congr fun k _ => by show 0 * _ = _; grind
    rw [e, sg_zero]
    show (0 : Rat) = 0 + 0
    grind
  | b :: bs => by
    have ih := mean_split y hi bs
    have e1 : ∀ k, psum (b :: bs) (u k) = (if b.2 = u k then b.1 else 0) + psum bs (u k) := fun k => by
      unfold psum; rw [List.map_cons, List.sum_cons]
    have e2 : osum m u y (b :: bs) = (if inU m u b.2 = true then 0 else b.1 * y b.2) + osum m u y bs := by
      unfold osum; rw [List.map_cons, List.sum_cons]
    have e3 : sg m (fun k => psum (b :: bs) (u k) * y (u k)) = sg m (fun k => b.1 * ((if b.2 = u k then 1 else 0) * y (u k)) + psum bs (u k) * y (u k)) := sg_congr fun k _ => by
      rw [e1]; split <;> grind
    rw [mean_cons, ih, e3, sg_add, sg_mul, sg_at y b.2 hi, e2]
    split <;> grind
/-- a chain -/
structure Ck (c : Game) : Prop where
  len : c.length ≤ 12
  br : ∀ i, i < c.length → (pat c i).isFin = false → (pat c i).isLose = false → BrOk c.length (pat c i).br
  tg : ∀ i, i < c.length → (pat c i).tgs = (pat c i).br.map (·.2)
/-- the unknown places, in some order -/
structure En (c : Game) (m : Nat) (u : Nat → Nat) : Prop where
  inj : ∀ i j, i < m → j < m → u i = u j → i = j
  mem : ∀ k, k < m → u k < c.length ∧ Rf c (u k) ∧ (pat c (u k)).isFin = false
  all : ∀ i, i < c.length → Rf c i → (pat c i).isFin = false → ∃ k, k < m ∧ u k = i
theorem uk_en (c : Game) : En c (unk c).length (uk c) := ⟨fun _ _ hi hj e => uk_inj hi hj e, fun k hk => mem_unk.mp (uk_mem hk), fun i hi h1 h2 => by
  obtain ⟨k, hk, e⟩ := List.getElem_of_mem (mem_unk.mpr ⟨hi, h1, h2⟩)
  refine ⟨k, hk, ?_⟩
  have := uk_get hk
  rw [List.getElem?_eq_getElem hk, e] at this
  exact (Option.some.inj this).symm⟩
theorem rf_nolose {c : Game} {i : Nat} (h : Rf c i) : (pat c i).isLose = false := by
  cases h with
  | fin h =>
    cases hp : pat c i with
    | lose => rw [hp] at h; cases h
    | _ => rfl
  | step h _ =>
    cases hp : pat c i with
    | lose => rw [hp] at h; exact absurd h (List.not_mem_nil)
    | _ => rfl
variable {c : Game} {m : Nat} {u : Nat → Nat}
theorem En.br (hc : Ck c) (h : En c m u) {k : Nat} (hk : k < m) : BrOk c.length (pat c (u k)).br := hc.br _ (h.mem k hk).1 (h.mem k hk).2.2 (rf_nolose (h.mem k hk).2.1)
theorem En.few (hc : Ck c) (h : En c m u) : m ≤ 12 := by
  have := nodup_le2 c.length ((List.range m).map u) (by
    unfold List.Nodup
    rw [List.pairwise_map]
    refine List.Pairwise.imp_of_mem (R := fun a b => a < b) (fun {a b} ha hb hab e => ?_) List.pairwise_lt_range
    have := h.inj a b (List.mem_range.mp ha) (List.mem_range.mp hb) e
    omega) fun a ha => by
      obtain ⟨k, h1, rfl⟩ := List.mem_map.mp ha
      exact (h.mem k (List.mem_range.mp h1)).1
  rw [List.length_map, List.length_range] at this
  exact Nat.le_trans this hc.len
theorem kn01 (c : Game) (i : Nat) : 0 ≤ kn c i ∧ kn c i ≤ 1 ∧ isI (kn c i) := by
  unfold kn
  split
  · exact ⟨by decide, by decide, isI.one⟩
  · exact ⟨by decide, by decide, isI.zero⟩
theorem kd01 (i k : Nat) : 0 ≤ kd i k ∧ kd i k ≤ 1 ∧ isI (kd i k) := by
  unfold kd
  split
  · exact ⟨by decide, by decide, isI.one⟩
  · exact ⟨by decide, by decide, isI.zero⟩
theorem isI_mean {q : Nat} {n : Nat} {y : Nat → Rat} : ∀ {bs : List (Rat × Nat)}, (∀ b ∈ bs, ∃ k : Nat, b.1 * (q : Rat) = (k : Rat)) → (∀ b ∈ bs, isI (y b.2)) → isI ((q : Rat) * mean bs y)
  | [], _, _ => by rw [mean_nil, Rat.mul_zero]; exact isI.zero
  | b :: bs, h1, h2 => by
    have ih := isI_mean (n := n) (fun d hd => h1 d (List.mem_cons_of_mem _ hd)) fun d hd => h2 d (List.mem_cons_of_mem _ hd)
    obtain ⟨k, hk⟩ := h1 b List.mem_cons_self
    have e : (q : Rat) * mean (b :: bs) y = (k : Rat) * y b.2 + (q : Rat) * mean bs y := by rw [mean_cons, ← hk]; grind
    rw [e]
    exact ((isI.nat k).mul (h2 b List.mem_cons_self)).add ih
theorem mean01 {n : Nat} {bs : List (Rat × Nat)} (h : BrOk n bs) {y : Nat → Rat} (h0 : ∀ b ∈ bs, 0 ≤ y b.2 ∧ y b.2 ≤ 1) : 0 ≤ mean bs y ∧ mean bs y ≤ 1 := by
  have a1 := mean_le (y := fun _ => 0) (z := y) (bs := bs) h.nn fun b hb => (h0 b hb).1
  have a2 := mean_le (y := y) (z := fun _ => 1) (bs := bs) h.nn fun b hb => (h0 b hb).2
  rw [mean_const] at a1
  rw [mean_one, h.one] at a2
  exact ⟨by grind, a2⟩
theorem sys_lt {k : Nat} (hk : k < m) (i : Nat) : sysG c m u (kn c) i k = psum (pat c (u i)).br (u k) := if_pos hk
theorem sys_m (i : Nat) : sysG c m u (kn c) i m = osum m u (kn c) (pat c (u i)).br := by unfold sysG; rw [if_neg (Nat.lt_irrefl m), if_pos rfl]
theorem rf_rs (hc : Ck c) (h : En c m u) : ∀ p, Rf c p → ∀ i, i < m → u i = p → Rs m (sysG c m u (kn c)) i := fun p r => by
  induction r with
  | @fin p hp =>
    intro i hi e
    have := (h.mem i hi).2.2
    rw [e, hp] at this; cases this
  | @step p t ht r ih =>
    intro i hi e
    have hb := En.br hc h hi
    have ht' : t ∈ (pat c (u i)).br.map (·.2) := by rw [← hc.tg _ (h.mem i hi).1, e]; exact ht
    obtain ⟨b, hb1, rfl⟩ := List.mem_map.mp ht'
    have hbp := hb.pos b hb1
    by_cases hf : (pat c b.2).isFin = true
    · refine .out ?_
      rw [sys_m, osum_mean]
      have := mean_ge (y := fun i => if inU m u i = true then 0 else kn c i) (bs := (pat c (u i)).br) (b := b) (fun d hd => ⟨hb.nn d hd, by
        show 0 ≤ if inU m u d.2 = true then 0 else kn c d.2
        split
        · exact Rat.le_refl
        · exact (kn01 c _).1⟩) hb1
      have hno : ¬ inU m u b.2 = true := fun z => by
        obtain ⟨k, h1, h2⟩ := inU_iff.mp z
        have := (h.mem k h1).2.2
        rw [h2, hf] at this; cases this
      have e2 : (if inU m u b.2 = true then 0 else kn c b.2) = 1 := by
        rw [if_neg hno]; exact if_pos hf
      rw [e2] at this
      grind
    · obtain ⟨k, hk, hku⟩ := h.all b.2 hbp.2 r (by cases hx : (pat c b.2).isFin with | true => exact absurd hx hf | false => rfl)
      refine .go hk ?_ (ih k hk hku)
      rw [sys_lt hk, psum_mean, hku]
      have := mean_ge (y := fun i => if i = b.2 then 1 else 0) (bs := (pat c (u i)).br) (b := b) (fun d hd => ⟨hb.nn d hd, by
        show (0 : Rat) ≤ if d.2 = b.2 then 1 else 0
        split <;> decide⟩) hb1
      have e2 : (if b.2 = b.2 then (1 : Rat) else 0) = 1 := if_pos rfl
      rw [e2] at this
      grind
theorem En.sy (hc : Ck c) (h : En c m u) : Sy m (sysG c m u (kn c)) := by
  have hnn : ∀ i, i < m → ∀ k, 0 ≤ sysG c m u (kn c) i k := fun i hi k => by
    have hb := En.br hc h hi
    unfold sysG
    split
    · rw [psum_mean]
      exact (mean01 hb fun b _ => by show (0 : Rat) ≤ (if b.2 = u k then 1 else 0) ∧ (if b.2 = u k then (1 : Rat) else 0) ≤ 1; split <;> exact ⟨by decide, by decide⟩).1
    · split
      · rw [osum_mean]
        refine (mean01 hb fun b _ => ?_).1
        show (0 : Rat) ≤ (if inU m u b.2 = true then 0 else kn c b.2) ∧ (if inU m u b.2 = true then 0 else kn c b.2) ≤ 1
        split
        · exact ⟨by decide, by decide⟩
        · exact ⟨(kn01 c _).1, (kn01 c _).2.1⟩
      · exact (kd01 _ _).1
  refine ⟨hnn, fun i hi => ?_, fun i hi => rf_rs hc h _ (h.mem i hi).2.1 i hi rfl⟩
  have hb := En.br hc h hi
  have h1 := mean_split (fun _ => 1) h.inj (pat c (u i)).br
  rw [mean_one, hb.one] at h1
  have h2 : osum m u (kn c) (pat c (u i)).br ≤ osum m u (fun _ => 1) (pat c (u i)).br := by
    rw [osum_mean, osum_mean]
    refine mean_le hb.nn fun b _ => ?_
    show (if inU m u b.2 = true then 0 else kn c b.2) ≤ (if inU m u b.2 = true then 0 else 1)
    split
    · exact Rat.le_refl
    · exact (kn01 c _).2.1
  have h3 : sg m (fun l => sysG c m u (kn c) i l) = sg m (fun k => psum (pat c (u i)).br (u k) * 1) := sg_congr fun k hk => by rw [sys_lt hk]; grind
  rw [h3, sys_m]
  grind
noncomputable def qd (c : Game) (u : Nat → Nat) (i : Nat) : Nat := (Classical.epsilon fun q => Den q (pat c (u i)).br)
theorem En.sq (hc : Ck c) (h : En c m u) : Sq m (sysG c m u (kn c)) (qd c u) := by
  have hd : ∀ i, i < m → Den (qd c u i) (pat c (u i)).br := fun i hi => Classical.epsilon_spec (En.br hc h hi).den
  have sy := En.sy hc h
  refine ⟨sy, En.few hc h, fun i hi => ⟨(hd i hi).1, (hd i hi).2.1⟩, fun i hi k => ?_, fun i hi k => ?_⟩
  · have h2 := (hd i hi).2.2
    unfold sysG
    split
    · rw [psum_mean]
      exact isI_mean (n := 0) h2 fun b _ => by show isI (if b.2 = u k then 1 else 0); split; exact isI.one; exact isI.zero
    · split
      · rw [osum_mean]
        exact isI_mean (n := 0) h2 fun b _ => by show isI (if inU m u b.2 = true then 0 else kn c b.2); split; exact isI.zero; exact (kn01 c _).2.2
      · exact (isI.nat _).mul (kd01 _ _).2.2
  · by_cases hk : k ≤ m
    · exact sy.le1 hi hk
    · unfold sysG
      rw [if_neg (by omega), if_neg (by omega)]
      exact (kd01 _ _).2.1
/-- numbers that grow nowhere against the branches are nowhere above nought -/
theorem cmp_le (hc : Ck c) {x : Nat → Rat} (h1 : ∀ i, i < c.length → Rf c i → (pat c i).isFin = false → x i ≤ mean (pat c i).br x) (h2 : ∀ i, i < c.length → ¬ (Rf c i ∧ (pat c i).isFin = false) → x i ≤ 0) : ∀ i, i < c.length → x i ≤ 0 := fun i hi => by
  have h := uk_en c
  have sy := En.sy hc h
  have key := mp sy (Nat.le_refl _) (x := fun k => x (uk c k)) fun j hj => by
    have hm := h.mem j hj
    have hb := En.br hc h hj
    have a1 := h1 _ hm.1 hm.2.1 hm.2.2
    rw [mean_split x h.inj] at a1
    have a2 : osum (unk c).length (uk c) x (pat c (uk c j)).br ≤ 0 := by
      rw [osum_mean]
      have := mean_le (y := fun i => if inU (unk c).length (uk c) i = true then 0 else x i) (z := fun _ => 0) (bs := (pat c (uk c j)).br) hb.nn fun b hb' => by
        show (if inU (unk c).length (uk c) b.2 = true then 0 else x b.2) ≤ 0
        split
        · exact Rat.le_refl
        · rename_i hno
          refine h2 _ (hb.pos b hb').2 fun z => hno ?_
          exact inU_iff.mpr (h.all _ (hb.pos b hb').2 z.1 z.2)
      rw [mean_const] at this
      grind
    have a3 : sg (unk c).length (fun l => sysG c (unk c).length (uk c) (kn c) j l * x (uk c l)) = sg (unk c).length (fun k => psum (pat c (uk c j)).br (uk c k) * x (uk c k)) := sg_congr fun l hl => by rw [sys_lt hl]
    rw [a3]
    show x (uk c j) ≤ _
    grind
  by_cases hu : Rf c i ∧ (pat c i).isFin = false
  · obtain ⟨k, hk, e⟩ := h.all i hi hu.1 hu.2
    have := key k hk
    rw [← e]; exact this
  · exact h2 i hi hu
/-- what solves the system is the chances -/
theorem isval_of (hc : Ck c) (h : En c m u) {f : Nat → Rat} (hone : ∀ i, i < c.length → (pat c i).isFin = true → f i = 1) (hat : ∀ k, k < m → f (u k) = stage (sysG c m u (kn c)) m k m) (hz : ∀ i, i < c.length → (pat c i).isFin = false → (∀ k, k < m → u k ≠ i) → f i = 0) : IsVal c f := by
  refine ⟨hone, fun i hi hn => ?_, fun i hi hr hf => ?_⟩
  · cases hf : (pat c i).isFin with
    | true => exact absurd (.fin hf) hn
    | false =>
      refine hz i hi hf fun k hk e => hn ?_
      rw [← e]; exact (h.mem k hk).2.1
  · obtain ⟨k, hk, rfl⟩ := h.all i hi hr hf
    have hb := En.br hc h hk
    have sy := En.sy hc h
    rw [hat k hk, stage_is sy k m (Nat.le_refl m) m (Nat.le_refl m), mean_split f h.inj, sys_m]
    have e1 : osum m u (kn c) (pat c (u k)).br = osum m u f (pat c (u k)).br := by
      rw [osum_mean, osum_mean]
      refine mean_congr fun b hb' => ?_
      show (if inU m u b.2 = true then 0 else kn c b.2) = (if inU m u b.2 = true then 0 else f b.2)
      have hl := (hb.pos b hb').2
      split
      · rfl
      · rename_i hno
        unfold kn
        split
        · rename_i hf2
          exact (hone _ hl hf2).symm
        · rename_i hf2
          refine (hz _ hl (by cases hx : (pat c b.2).isFin with | true => exact absurd hx hf2 | false => rfl) fun k' hk' e => hno (inU_iff.mpr ⟨k', hk', e⟩)).symm
    have e2 : sg m (fun l => sysG c m u (kn c) k l * stage (sysG c m u (kn c)) m l m) = sg m (fun k' => psum (pat c (u k)).br (u k') * f (u k')) := sg_congr fun l hl => by rw [sys_lt hl, hat l hl]
    rw [e1, e2]; grind
theorem cv_isval (hc : Ck c) {f : Nat → Rat} (h : CvOk c f) : IsVal c f := isval_of hc (uk_en c) h.one h.at_ h.zero
end G
end
section
set_option linter.all false
/-! chances of a chain: one only; compared with other numbers; chains of two strategies -/
namespace G
variable {c : Game}
theorem IsVal.avg' (hc : Ck c) {v : Nat → Rat} (h : IsVal c v) {i : Nat} (hi : i < c.length) (hf : (pat c i).isFin = false) : v i = mean (pat c i).br v := by
  by_cases hr : Rf c i
  · exact h.avg i hi hr hf
  · rw [h.zero i hi hr]
    by_cases hl : (pat c i).isLose = true
    · cases hp : pat c i with
      | lose => rfl
      | _ => rw [hp] at hl; cases hl
    · have hb := hc.br i hi hf (by cases hx : (pat c i).isLose with | true => exact absurd hx hl | false => rfl)
      have e : mean (pat c i).br v = mean (pat c i).br (fun _ => 0) := mean_congr fun b hb' => h.zero _ (hb.pos b hb').2 fun z => hr (.step (t := b.2) (by rw [hc.tg i hi]; exact List.mem_map.mpr ⟨b, hb', rfl⟩) z)
      rw [e, mean_const]; grind
/-- numbers that fall nowhere on the way are not below -/
theorem ge_of (hc : Ck c) {v w : Nat → Rat} (h : IsVal c v) (h0 : ∀ i, i < c.length → 0 ≤ w i) (h1 : ∀ i, i < c.length → (pat c i).isFin = true → w i = 1) (h2 : ∀ i, i < c.length → (pat c i).isFin = false → mean (pat c i).br w ≤ w i) : ∀ i, i < c.length → v i ≤ w i := fun i hi => by
  have := cmp_le hc (x := fun i => v i - w i) (fun i hi hr hf => by
    have a1 := h.avg i hi hr hf
    have a2 := h2 i hi hf
    rw [mean_sub]
    show v i - w i ≤ _
    grind) (fun i hi hn => by
    show v i - w i ≤ 0
    by_cases hf : (pat c i).isFin = true
    · rw [h.one i hi hf, h1 i hi hf]; grind
    · have hf' : (pat c i).isFin = false := by cases hx : (pat c i).isFin with | true => exact absurd hx hf | false => rfl
      have a1 := h.zero i hi fun z => hn ⟨z, hf'⟩
      have a2 := h0 i hi
      grind) i hi
  have h' : v i - w i ≤ 0 := this
  grind
theorem le_of (hc : Ck c) {v w : Nat → Rat} (h : IsVal c v) (h0 : ∀ i, i < c.length → ¬ Rf c i → w i ≤ 0) (h1 : ∀ i, i < c.length → (pat c i).isFin = true → w i = 1) (h2 : ∀ i, i < c.length → (pat c i).isFin = false → w i ≤ mean (pat c i).br w) : ∀ i, i < c.length → w i ≤ v i := fun i hi => by
  have := cmp_le hc (x := fun i => w i - v i) (fun i hi hr hf => by
    have a1 := h.avg i hi hr hf
    have a2 := h2 i hi hf
    rw [mean_sub]
    show w i - v i ≤ _
    grind) (fun i hi hn => by
    show w i - v i ≤ 0
    by_cases hf : (pat c i).isFin = true
    · rw [h.one i hi hf, h1 i hi hf]; grind
    · have hf' : (pat c i).isFin = false := by cases hx : (pat c i).isFin with | true => exact absurd hx hf | false => rfl
      have hr : ¬ Rf c i := fun z => hn ⟨z, hf'⟩
      have a1 := h.zero i hi hr
      have a2 := h0 i hi hr
      grind) i hi
  have h' : w i - v i ≤ 0 := this
  grind
theorem IsVal.uni (hc : Ck c) {v w : Nat → Rat} (h : IsVal c v) (h' : IsVal c w) : ∀ i, i < c.length → v i = w i := fun i hi => by
  have a1 := le_of hc h' (w := v) (fun i hi hn => by rw [h.zero i hi hn]; exact Rat.le_refl) h.one (fun i hi hf => by rw [← h.avg' hc hi hf]; exact Rat.le_refl) i hi
  have a2 := le_of hc h (w := w) (fun i hi hn => by rw [h'.zero i hi hn]; exact Rat.le_refl) h'.one (fun i hi hf => by rw [← h'.avg' hc hi hf]; exact Rat.le_refl) i hi
  grind
theorem IsVal.ge0 (hc : Ck c) {v : Nat → Rat} (h : IsVal c v) {i : Nat} (hi : i < c.length) : 0 ≤ v i := by
  have := cmp_le hc (x := fun i => - v i) (fun i hi hr hf => by
    rw [mean_neg, ← h.avg i hi hr hf]; exact Rat.le_refl) (fun i hi hn => by
    show - v i ≤ 0
    by_cases hf : (pat c i).isFin = true
    · rw [h.one i hi hf]; decide
    · have hf' : (pat c i).isFin = false := by cases hx : (pat c i).isFin with | true => exact absurd hx hf | false => rfl
      rw [h.zero i hi fun z => hn ⟨z, hf'⟩]; decide) i hi
  have h' : - v i ≤ 0 := this
  grind
theorem IsVal.le1 (hc : Ck c) {v : Nat → Rat} (h : IsVal c v) {i : Nat} (hi : i < c.length) : v i ≤ 1 :=
  ge_of hc h (w := fun _ => 1) (fun _ _ => by decide) (fun _ _ _ => rfl) (fun i hi hf => by
    by_cases hl : (pat c i).isLose = true
    · cases hp : pat c i with
      | lose => show (0 : Rat) ≤ 1; decide
      | _ => rw [hp] at hl; cases hl
    · have hb := hc.br i hi hf (by cases hx : (pat c i).isLose with | true => exact absurd hx hl | false => rfl)
      rw [mean_one, hb.one]; exact Rat.le_refl) i hi
/-- there are chances -/
theorem cv_ex (c : Game) : ∃ f, CvOk c f := by
  let idx : Nat → Nat := fun i => Classical.epsilon fun k => k < (unk c).length ∧ uk c k = i
  have hidx : ∀ k, k < (unk c).length → idx (uk c k) = k := fun k hk => by
    have : idx (uk c k) < (unk c).length ∧ uk c (idx (uk c k)) = uk c k := Classical.epsilon_spec (p := fun k' => k' < (unk c).length ∧ uk c k' = uk c k) ⟨k, hk, rfl⟩
    exact uk_inj this.1 hk this.2
  refine ⟨fun i => if (pat c i).isFin = true then 1 else if cd (∃ k, k < (unk c).length ∧ uk c k = i) = true then sol c (idx i) else 0, fun i hi h => if_pos h, fun k hk => ?_, fun i hi h1 h2 => ?_⟩
  · have hm := mem_unk.mp (uk_mem hk)
    show (if (pat c (uk c k)).isFin = true then (1 : Rat) else if cd (∃ k', k' < (unk c).length ∧ uk c k' = uk c k) = true then sol c (idx (uk c k)) else 0) = sol c k
    rw [if_neg (by rw [hm.2.2]; decide), if_pos (cd_iff.mpr ⟨k, hk, rfl⟩), hidx k hk]
  · show (if (pat c i).isFin = true then (1 : Rat) else if cd (∃ k', k' < (unk c).length ∧ uk c k' = i) = true then sol c (idx i) else 0) = 0
    rw [if_neg (by rw [h1]; decide), if_neg fun z => by
      obtain ⟨k, hk, e⟩ := cd_iff.mp z
      exact h2 k hk e]
theorem sol_sz (hc : Ck c) {k : Nat} (hk : k < (unk c).length) : (sol c k).num.natAbs < 2 ^ 67 ∧ (sol c k).den < 2 ^ 67 := (En.sq hc (uk_en c)).sz1 (Nat.le_refl _) hk (Nat.le_refl _)
theorem IsVal.sz (hc : Ck c) {v : Nat → Rat} (h : IsVal c v) {i : Nat} (hi : i < c.length) : (v i).num.natAbs < 2 ^ 67 ∧ (v i).den < 2 ^ 67 := by
  obtain ⟨f, hf⟩ := cv_ex c
  rw [h.uni hc (cv_isval hc hf) i hi]
  by_cases h1 : (pat c i).isFin = true
  · rw [hf.one i hi h1]; decide
  · have h1' : (pat c i).isFin = false := by cases hx : (pat c i).isFin with | true => exact absurd hx h1 | false => rfl
    by_cases h2 : ∃ k, k < (unk c).length ∧ uk c k = i
    · obtain ⟨k, hk, rfl⟩ := h2
      rw [hf.at_ k hk]; exact sol_sz hc hk
    · rw [hf.zero i hi h1' fun k hk e => h2 ⟨k, hk, e⟩]; decide
end G
namespace G
variable {g : Game} {so st : Strat}
theorem pat_out {g : Game} {i : Nat} (h : ¬ i < g.length) : pat g i = .lose := by
  unfold pat
  rw [List.getD_eq_getElem?_getD, List.getElem?_eq_none (by omega)]; rfl
theorem tgt_put {s s' : Sd} {st' : Strat} (hne : s' ≠ s) {i : Nat} (h : i < g.length) (hs : (pat g i).side = some s') : tgt (put s g st) st' i = tgt g st' i := by
  unfold tgt
  rw [put_out h (by rw [hs]; exact fun z => hne (Option.some.inj z))]
theorem ch2_us {i : Nat} (h : i < g.length) (hs : (pat g i).side = some .us) : pat (ch2 g so st) i = .draw [(1, tgt g so i)] := by
  unfold ch2
  rw [put_out (by rw [put_len]; exact h) (by rw [put_in h hs]; exact fun z => by cases z), put_in h hs]
theorem ch2_them {i : Nat} (h : i < g.length) (hs : (pat g i).side = some .them) : pat (ch2 g so st) i = .draw [(1, tgt g st i)] := by
  unfold ch2
  rw [put_in (by rw [put_len]; exact h) (by rw [put_out h (by rw [hs]; exact fun z => by cases z)]; exact hs), tgt_put (by decide) h hs]
theorem ch2_no {i : Nat} (h : i < g.length) (hs : (pat g i).side = none) : pat (ch2 g so st) i = pat g i := by
  unfold ch2
  rw [put_out (by rw [put_len]; exact h) (by rw [put_out h (by rw [hs]; exact fun z => by cases z), hs]; exact fun z => by cases z), put_out h (by rw [hs]; exact fun z => by cases z)]
theorem tgt_mem {s : Sd} (h : StOk s g st) {i : Nat} (hi : i < g.length) (hs : (pat g i).side = some s) : tgt g st i ∈ (pat g i).tgs := by
  obtain ⟨b, h1, h2⟩ := h.yes i hi hs
  unfold tgt chz
  rw [show st.getD i none = some b by rw [List.getD_eq_getElem?_getD, h1]; rfl]
  show (pat g i).tgs.getD b 0 ∈ _
  rw [List.getD_eq_getElem?_getD, List.getElem?_eq_getElem h2]
  exact List.getElem_mem h2
theorem tg_lt (hg : GOk g) {i t : Nat} (hi : i < g.length) (ht : t ∈ (pat g i).tgs) : t < g.length := by
  have := hg.pl i hi
  cases hp : pat g i with
  | draw bs =>
    rw [hp] at this ht
    obtain ⟨b, h1, rfl⟩ := List.mem_map.mp ht
    exact (this.2.2.1 b h1).2
  | ours ts => rw [hp] at this ht; exact this.2.2 t ht
  | theirs ts => rw [hp] at this ht; exact this.2.2 t ht
  | reward r x =>
    rw [hp] at this ht
    have e : t = x := List.mem_singleton.mp ht
    rw [e]; exact this.2
  | fin => rw [hp] at ht; exact absurd ht List.not_mem_nil
  | lose => rw [hp] at ht; exact absurd ht List.not_mem_nil
theorem br_one {n x : Nat} (h : x < n) : BrOk n [(1, x)] := by
  refine ⟨by show 1 ≤ 6; decide, fun b hb => ?_, ?_, 1, by decide, by decide, fun b hb => ⟨1, ?_⟩⟩
  · rw [List.mem_singleton.mp hb]; exact ⟨by show (0 : Rat) < 1; decide, h⟩
  · exact Rat.add_zero 1
  · rw [List.mem_singleton.mp hb]; show (1 : Rat) * ((1 : Nat) : Rat) = ((1 : Nat) : Rat); grind
theorem ck_ch2 (hg : GOk g) (hso : StOk .us g so) (hst : StOk .them g st) : Ck (ch2 g so st) := by
  refine ⟨by rw [ch2_len]; exact hg.len, fun i hi hf hl => ?_, fun i hi => ?_⟩
  · rw [ch2_len] at hi ⊢
    cases hs : (pat g i).side with
    | some s =>
      cases s with
      | us => rw [ch2_us hi hs]; exact br_one (tg_lt hg hi (tgt_mem hso hi hs))
      | them => rw [ch2_them hi hs]; exact br_one (tg_lt hg hi (tgt_mem hst hi hs))
    | none =>
      rw [ch2_no hi hs] at hf hl ⊢
      have := hg.pl i hi
      cases hp : pat g i with
      | draw bs =>
        rw [hp] at this
        exact ⟨this.2.1, this.2.2.1, this.2.2.2.1, this.2.2.2.2⟩
      | reward r x => rw [hp] at this; exact br_one this.2
      | ours ts => rw [hp] at hs; cases hs
      | theirs ts => rw [hp] at hs; cases hs
      | fin => rw [hp] at hf; cases hf
      | lose => rw [hp] at hl; cases hl
  · rw [ch2_len] at hi
    cases hs : (pat g i).side with
    | some s =>
      cases s with
      | us => rw [ch2_us hi hs]; rfl
      | them => rw [ch2_them hi hs]; rfl
    | none =>
      rw [ch2_no hi hs]
      cases hp : pat g i with
      | ours ts => rw [hp] at hs; cases hs
      | theirs ts => rw [hp] at hs; cases hs
      | _ => rfl
theorem ch2_fin {i : Nat} (hi : i < g.length) : (pat (ch2 g so st) i).isFin = (pat g i).isFin := by
  cases hs : (pat g i).side with
  | some s =>
    have : (pat g i).isFin = false := by
      cases hp : pat g i with
      | fin => rw [hp] at hs; cases hs
      | _ => rfl
    cases s with
    | us => rw [ch2_us hi hs, this]; rfl
    | them => rw [ch2_them hi hs, this]; rfl
  | none => rw [ch2_no hi hs]
theorem mean_single (x : Nat) (y : Nat → Rat) : mean [(1, x)] y = y x := by
  rw [mean_cons, mean_nil]; grind
theorem rf_out {c : Game} {i : Nat} (h : Rf c i) : i < c.length := by
  refine Classical.byContradiction fun hn => ?_
  have hp := pat_out hn
  cases h with
  | fin h => rw [hp] at h; cases h
  | step h _ => rw [hp] at h; exact absurd h List.not_mem_nil
end G
end
section
set_option linter.all false
/-! strategies made better; the least and the greatest -/
namespace G
variable {g : Game} {so st st' : Strat}
theorem rk_rf (hst : StOk .them g st) : ∀ {i : Nat}, Rk (put .us g so) i → Rf (ch2 g so st) i := fun {i} h => by
  have hst' : StOk .them (put .us g so) st := stok_put (by decide) hst
  have hlt : ∀ {i : Nat}, pat (put .us g so) i ≠ .lose → i < (put .us g so).length := fun {i} z => Classical.byContradiction fun hn => z (pat_out hn)
  have sd : ∀ {i : Nat}, i < (put .us g so).length → (pat (put .us g so) i).side ≠ some .them → pat (ch2 g so st) i = pat (put .us g so) i := fun {i} hi hs => put_out hi hs
  induction h with
  | @fin p h =>
    have hi := hlt (i := p) (fun z => by rw [z] at h; cases h)
    exact .fin (by rw [sd hi (by cases hp : pat (put .us g so) p with | fin => exact fun z => by cases z | _ => rw [hp] at h; cases h)]; exact h)
  | @any p t bs hp ht _ ih =>
    have hi := hlt (i := p) (fun z => by rw [z] at hp; cases hp)
    exact .step (by rw [sd hi (by rw [hp]; exact fun z => by cases z)]; exact ht) ih
  | @own p t ts hp ht _ ih =>
    have hi := hlt (i := p) (fun z => by rw [z] at hp; cases hp)
    exact .step (by rw [sd hi (by rw [hp]; exact fun z => by cases z)]; exact ht) ih
  | @all p ts hp _ ih =>
    have hi := hlt (i := p) (fun z => by rw [z] at hp; cases hp)
    have hs : (pat (put .us g so) p).side = some .them := by rw [hp]; rfl
    refine .step (t := tgt (put .us g so) st p) ?_ (ih _ (tgt_mem hst' hi hs))
    unfold ch2
    rw [put_in hi hs]
    exact List.mem_singleton_self _
  | @one p x r hp _ ih =>
    have hi := hlt (i := p) (fun z => by rw [z] at hp; cases hp)
    exact .step (t := x) (by rw [sd hi (by rw [hp]; exact fun z => by cases z), hp]; exact List.mem_singleton_self _) ih
/-- away from every finish, where the strategy keeps in the places of no chance -/
theorem away (hso : StOk .us g so) (hst : StOk .them g st) {N : List Nat} (hN : NcOk (put .us g so) N) (hk : ∀ i ∈ N, (pat (put .us g so) i).side = some .them → tgt (put .us g so) st i ∈ N) : ∀ i, Rf (ch2 g so st) i → i ∉ N := fun i h => by
  induction h with
  | @fin p h =>
    intro hp
    have hi := hN.lt p hp
    have := hN.nofin p hp
    rw [put_len] at hi
    rw [ch2_fin hi] at h
    have e : (pat (put .us g so) p).isFin = (pat g p).isFin := by
      by_cases hs : (pat g p).side = some .us
      · rw [put_in hi hs]
        cases hp : pat g p with
        | fin => rw [hp] at hs; cases hs
        | _ => rfl
      · rw [put_out hi hs]
    rw [e, h] at this; cases this
  | @step p t ht _ ih =>
    intro hp
    have hi := hN.lt p hp
    have hcl := hN.cl p hp
    refine ih ?_
    by_cases hs : (pat (put .us g so) p).side = some .them
    · unfold ch2 at ht
      rw [put_in hi hs] at ht
      rw [List.mem_singleton.mp ht]
      exact hk p hp hs
    · have e : pat (ch2 g so st) p = pat (put .us g so) p := put_out hi hs
      rw [e] at ht
      have hi' : p < g.length := by rw [put_len] at hi; exact hi
      refine Classical.byContradiction fun hn => ?_
      have hno : (!decide (t ∈ N)) = true := by rw [decide_eq_false hn]; rfl
      cases hq : pat (put .us g so) p with
      | draw bs =>
        rw [hq] at hcl ht
        have : (Pl.draw bs).tgs.any (fun t => !decide (t ∈ N)) = true := List.any_eq_true.mpr ⟨t, ht, hno⟩
        have h2 : (Pl.draw bs).tgs.any (fun t => !decide (t ∈ N)) = false := hcl
        rw [h2] at this; cases this
      | ours ts =>
        rw [hq] at hcl ht
        have : (Pl.ours ts).tgs.any (fun t => !decide (t ∈ N)) = true := List.any_eq_true.mpr ⟨t, ht, hno⟩
        have h2 : (Pl.ours ts).tgs.any (fun t => !decide (t ∈ N)) = false := hcl
        rw [h2] at this; cases this
      | theirs ts => rw [hq] at hs; exact hs rfl
      | reward r x =>
        rw [hq] at hcl ht
        have h2 : (Pl.reward r x).tgs.all (fun t => !decide (t ∈ N)) = false := hcl
        have h3 : t = x := List.mem_singleton.mp ht
        have : (Pl.reward r x).tgs.all (fun t => !decide (t ∈ N)) = true := List.all_eq_true.mpr fun y hy => by rw [List.mem_singleton.mp hy, ← h3]; exact hno
        rw [h2] at this; cases this
      | fin => rw [hq] at ht; exact absurd ht List.not_mem_nil
      | lose => rw [hq] at ht; exact absurd ht List.not_mem_nil
/-- the chances of the start -/
theorem away_zero (hg : GOk g) (hso : StOk .us g so) (hst : StOk .them g st) {N : List Nat} (hN : NcOk (put .us g so) N) (hk : ∀ i ∈ N, (pat (put .us g so) i).side = some .them → tgt (put .us g so) st i ∈ N) {v : Nat → Rat} (hv : IsVal (ch2 g so st) v) : ∀ i ∈ N, v i = 0 := fun i hi =>
  hv.zero i (by rw [ch2_len, ← put_len .us g so]; exact hN.lt i hi) fun z => away hso hst hN hk i z hi
section
variable (hg : GOk g) (hso : StOk .us g so) (hst : StOk .them g st) (hst' : StOk .them g st') {v v' : Nat → Rat}
include hg hso hst hst'
/-- the branches of a place, for another strategy of theirs: no more, where it tells no greater number -/
theorem mean_them (hv : IsVal (ch2 g so st) v) (ht : ∀ i, i < g.length → (pat g i).side = some .them → v (tgt g st' i) ≤ v (tgt g st i)) {i : Nat} (hi : i < g.length) (hf : (pat (ch2 g so st') i).isFin = false) : mean (pat (ch2 g so st') i).br v ≤ v i := by
  have hc := ck_ch2 hg hso hst
  have hf' : (pat (ch2 g so st) i).isFin = false := by rw [ch2_fin hi] at hf ⊢; exact hf
  have ha := hv.avg' hc (by rw [ch2_len]; exact hi) hf'
  cases hs : (pat g i).side with
  | some s =>
    cases s with
    | us => rw [ch2_us hi hs] at ha ⊢; rw [ha]; exact Rat.le_refl
    | them =>
      rw [ch2_them hi hs] at ha ⊢
      rw [ha]
      show mean [(1, tgt g st' i)] v ≤ mean [(1, tgt g st i)] v
      rw [mean_single, mean_single]
      exact ht i hi hs
  | none => rw [ch2_no hi hs] at ha ⊢; rw [ha]; exact Rat.le_refl
theorem mean_them' (hv : IsVal (ch2 g so st) v) (ht : ∀ i, i < g.length → (pat g i).side = some .them → v (tgt g st i) ≤ v (tgt g st' i)) {i : Nat} (hi : i < g.length) (hf : (pat (ch2 g so st') i).isFin = false) : v i ≤ mean (pat (ch2 g so st') i).br v := by
  have hc := ck_ch2 hg hso hst
  have hf' : (pat (ch2 g so st) i).isFin = false := by rw [ch2_fin hi] at hf ⊢; exact hf
  have ha := hv.avg' hc (by rw [ch2_len]; exact hi) hf'
  cases hs : (pat g i).side with
  | some s =>
    cases s with
    | us => rw [ch2_us hi hs] at ha ⊢; rw [← ha]; exact Rat.le_refl
    | them =>
      rw [ch2_them hi hs] at ha ⊢
      rw [ha]
      show mean [(1, tgt g st i)] v ≤ mean [(1, tgt g st' i)] v
      rw [mean_single, mean_single]
      exact ht i hi hs
  | none => rw [ch2_no hi hs] at ha ⊢; rw [← ha]; exact Rat.le_refl
/-- made better for them, the chances are no greater -/
theorem them_le (hv : IsVal (ch2 g so st) v) (hv' : IsVal (ch2 g so st') v') (hb : BtOk .them g st v st') : ∀ i, i < g.length → v' i ≤ v i := fun i hi =>
  ge_of (ck_ch2 hg hso hst') hv' (fun i hi => hv.ge0 (ck_ch2 hg hso hst) (by rw [ch2_len] at hi ⊢; exact hi)) (fun i hi hf => hv.one i (by rw [ch2_len] at hi ⊢; exact hi) (by rw [ch2_len] at hi; rw [ch2_fin hi] at hf ⊢; exact hf)) (fun i hi hf => by
    rw [ch2_len] at hi
    exact mean_them hg hso hst hst' hv (fun i hi hs => by
      have := hb.top i hi hs _ (tgt_mem hst hi hs)
      exact Rat.not_lt.mp this) hi hf) i (by rw [ch2_len]; exact hi)
theorem them_lt (hv : IsVal (ch2 g so st) v) (hv' : IsVal (ch2 g so st') v') (hb : BtOk .them g st v st') (hne : st' ≠ st) : ∃ i, i < g.length ∧ v' i < v i := by
  have hex : ∃ i, i < g.length ∧ st'.getD i none ≠ st.getD i none := Classical.byContradiction fun hno => hne (by
    apply List.ext_getElem?
    intro j
    by_cases hj : j < g.length
    · have := Classical.byContradiction fun z => hno ⟨j, hj, z⟩
      rw [List.getElem?_eq_getElem (by rw [hst'.len]; exact hj), List.getElem?_eq_getElem (by rw [hst.len]; exact hj)]
      rw [List.getD_eq_getElem?_getD, List.getD_eq_getElem?_getD, List.getElem?_eq_getElem (by rw [hst'.len]; exact hj), List.getElem?_eq_getElem (by rw [hst.len]; exact hj)] at this
      exact congrArg some this
    · rw [List.getElem?_eq_none (by rw [hst'.len]; omega), List.getElem?_eq_none (by rw [hst.len]; omega)])
  obtain ⟨i, hi, hd⟩ := hex
  have hs : (pat g i).side = some .them := Classical.byContradiction fun z => hd (by
    rw [List.getD_eq_getElem?_getD, List.getD_eq_getElem?_getD, hst'.no i hi z, hst.no i hi z])
  have h1 : v (tgt g st' i) < v (tgt g st i) := hb.up i hi hs hd
  have hf : (pat g i).isFin = false := by
    cases hp : pat g i with
    | fin => rw [hp] at hs; cases hs
    | _ => rfl
  have a1 := hv.avg' (ck_ch2 hg hso hst) (i := i) (by rw [ch2_len]; exact hi) (by rw [ch2_fin hi]; exact hf)
  have a2 := hv'.avg' (ck_ch2 hg hso hst') (i := i) (by rw [ch2_len]; exact hi) (by rw [ch2_fin hi]; exact hf)
  rw [ch2_them hi hs] at a1 a2
  have a1' : v i = v (tgt g st i) := by rw [a1]; exact mean_single _ _
  have a2' : v' i = v' (tgt g st' i) := by rw [a2]; exact mean_single _ _
  have a3 := them_le hg hso hst hst' hv hv' hb (tgt g st' i) (tg_lt hg hi (tgt_mem hst' hi hs))
  exact ⟨i, hi, by grind⟩
/-- not to be made better for them: the least -/
theorem them_least (hv : IsVal (ch2 g so st) v) (hv' : IsVal (ch2 g so st') v') (hb : BtOk .them g st v st) {N : List Nat} (hN : NcOk (put .us g so) N) (h0 : ∀ i ∈ N, v i = 0) : ∀ i, i < g.length → v i ≤ v' i := fun i hi =>
  le_of (ck_ch2 hg hso hst') hv' (fun i hi hn => by
    rw [ch2_len] at hi
    have hin : i ∈ N := Classical.byContradiction fun z => hn (rk_rf hst' (hN.out i (by rw [put_len]; exact hi) z))
    rw [h0 i hin]; exact Rat.le_refl) (fun i hi hf => hv.one i (by rw [ch2_len] at hi ⊢; exact hi) (by rw [ch2_len] at hi; rw [ch2_fin hi] at hf ⊢; exact hf)) (fun i hi hf => by
    rw [ch2_len] at hi
    exact mean_them' hg hso hst hst' hv (fun i hi hs => Rat.not_lt.mp (hb.top i hi hs _ (tgt_mem hst' hi hs))) hi hf) i (by rw [ch2_len]; exact hi)
end
section
variable {so' : Strat} (hg : GOk g) (hso : StOk .us g so) (hso' : StOk .us g so') (hst : StOk .them g st) {v v' : Nat → Rat}
include hg hso hso' hst
theorem mean_us (hv : IsVal (ch2 g so st) v) (ht : ∀ i, i < g.length → (pat g i).side = some .us → v (tgt g so i) ≤ v (tgt g so' i)) {i : Nat} (hi : i < g.length) (hf : (pat (ch2 g so' st) i).isFin = false) : v i ≤ mean (pat (ch2 g so' st) i).br v := by
  have hc := ck_ch2 hg hso hst
  have hf' : (pat (ch2 g so st) i).isFin = false := by rw [ch2_fin hi] at hf ⊢; exact hf
  have ha := hv.avg' hc (by rw [ch2_len]; exact hi) hf'
  cases hs : (pat g i).side with
  | some s =>
    cases s with
    | them => rw [ch2_them hi hs] at ha ⊢; rw [← ha]; exact Rat.le_refl
    | us =>
      rw [ch2_us hi hs] at ha ⊢
      rw [ha]
      show mean [(1, tgt g so i)] v ≤ mean [(1, tgt g so' i)] v
      rw [mean_single, mean_single]
      exact ht i hi hs
  | none => rw [ch2_no hi hs] at ha ⊢; rw [← ha]; exact Rat.le_refl
theorem mean_us' (hv : IsVal (ch2 g so st) v) (ht : ∀ i, i < g.length → (pat g i).side = some .us → v (tgt g so' i) ≤ v (tgt g so i)) {i : Nat} (hi : i < g.length) (hf : (pat (ch2 g so' st) i).isFin = false) : mean (pat (ch2 g so' st) i).br v ≤ v i := by
  have hc := ck_ch2 hg hso hst
  have hf' : (pat (ch2 g so st) i).isFin = false := by rw [ch2_fin hi] at hf ⊢; exact hf
  have ha := hv.avg' hc (by rw [ch2_len]; exact hi) hf'
  cases hs : (pat g i).side with
  | some s =>
    cases s with
    | them => rw [ch2_them hi hs] at ha ⊢; rw [← ha]; exact Rat.le_refl
    | us =>
      rw [ch2_us hi hs] at ha ⊢
      rw [ha]
      show mean [(1, tgt g so' i)] v ≤ mean [(1, tgt g so i)] v
      rw [mean_single, mean_single]
      exact ht i hi hs
  | none => rw [ch2_no hi hs] at ha ⊢; rw [← ha]; exact Rat.le_refl
/-- made better for us, a place without a finish had no chance before -/
theorem us_zero (hv : IsVal (ch2 g so st) v) (hb : BtOk .us g so v so') : ∀ i, i < g.length → ¬ Rf (ch2 g so' st) i → v i ≤ 0 := by
  have hc := ck_ch2 hg hso hst
  have hc' := ck_ch2 hg hso' hst
  refine Classical.byContradiction fun hno => ?_
  -- the greatest of them
  have hmax : ∀ n, (∃ i, i < n ∧ i < g.length ∧ ¬ Rf (ch2 g so' st) i ∧ 0 < v i) → ∃ i, i < g.length ∧ ¬ Rf (ch2 g so' st) i ∧ 0 < v i ∧ ∀ j, j < n → j < g.length → ¬ Rf (ch2 g so' st) j → v j ≤ v i := fun n => by
    induction n with
    | zero => rintro ⟨i, h, _⟩; omega
    | succ n ih =>
      intro hex
      by_cases hlow : ∃ i, i < n ∧ i < g.length ∧ ¬ Rf (ch2 g so' st) i ∧ 0 < v i
      · obtain ⟨i, h1, h2, h3, h4⟩ := ih hlow
        by_cases hn : n < g.length ∧ ¬ Rf (ch2 g so' st) n ∧ v i < v n
        · refine ⟨n, hn.1, hn.2.1, by grind, fun j hj hj2 hj3 => ?_⟩
          by_cases e : j = n
          · subst e; exact Rat.le_refl
          · have := h4 j (by omega) hj2 hj3
            have := hn.2.2
            grind
        · refine ⟨i, h1, h2, h3, fun j hj hj2 hj3 => ?_⟩
          by_cases e : j = n
          · subst e
            exact Rat.not_lt.mp fun z => hn ⟨hj2, hj3, z⟩
          · exact h4 j (by omega) hj2 hj3
      · obtain ⟨i, h1, h2, h3, h4⟩ := hex
        have e : i = n := Classical.byContradiction fun z => hlow ⟨i, by omega, h2, h3, h4⟩
        subst e
        refine ⟨i, h2, h3, h4, fun j hj hj2 hj3 => ?_⟩
        by_cases e : j = i
        · subst e; exact Rat.le_refl
        · have : ¬ 0 < v j := fun z => hlow ⟨j, by omega, hj2, hj3, z⟩
          grind
  have hex : ∃ i, i < g.length ∧ i < g.length ∧ ¬ Rf (ch2 g so' st) i ∧ 0 < v i := Classical.byContradiction fun z => hno fun i hi hn => Rat.not_lt.mp fun hl => z ⟨i, hi, hi, hn, hl⟩
  obtain ⟨p, hp1, hp2, hp3, hp4⟩ := hmax g.length hex
  have key : ∀ i, Rf (ch2 g so st) i → i < g.length → ¬ Rf (ch2 g so' st) i → v i = v p → False := fun i r => by
    induction r with
    | @fin i h =>
      intro hi hn _
      exact hn (.fin (by rw [ch2_fin hi] at h ⊢; exact h))
    | @step i t ht r ih =>
      intro hi hn he
      have hf : (pat g i).isFin = false := by
        cases hx : (pat g i).isFin with
        | false => rfl
        | true => exact absurd (.fin (by rw [ch2_fin hi]; exact hx)) hn
      have htl := rf_out r
      rw [ch2_len] at htl
      have ha := hv.avg' hc (i := i) (by rw [ch2_len]; exact hi) (by rw [ch2_fin hi]; exact hf)
      -- the targets there have no finish
      have hto : ∀ x, x ∈ (pat (ch2 g so' st) i).tgs → ¬ Rf (ch2 g so' st) x := fun x hx z => hn (.step hx z)
      by_cases hs : (pat g i).side = some .us
      · rw [ch2_us hi hs] at ha ht
        have ha' : v i = v (tgt g so i) := by rw [ha]; exact mean_single _ _
        have ht' : t = tgt g so i := List.mem_singleton.mp ht
        by_cases hd : so'.getD i none = so.getD i none
        · refine ih htl (hto t ?_) (by rw [ht', ← ha', he])
          rw [ch2_us hi hs, ht']
          have e : tgt g so' i = tgt g so i := by unfold tgt chz; rw [hd]
          rw [e]; exact List.mem_singleton_self _
        · have h1 : v (tgt g so i) < v (tgt g so' i) := hb.up i hi hs hd
          have h2 := hp4 (tgt g so' i) (tg_lt hg hi (tgt_mem hso' hi hs)) (tg_lt hg hi (tgt_mem hso' hi hs)) (hto _ (by rw [ch2_us hi hs]; exact List.mem_singleton_self _))
          grind
      · have e : pat (ch2 g so st) i = pat (ch2 g so' st) i := by
          cases hs2 : (pat g i).side with
          | none => rw [ch2_no hi hs2, ch2_no hi hs2]
          | some s =>
            cases s with
            | us => exact absurd hs2 hs
            | them => rw [ch2_them hi hs2, ch2_them hi hs2]
        have hcl : (pat (ch2 g so st) i).isLose = false := by
          cases hx : pat (ch2 g so st) i with
          | lose => rw [hx] at ht; exact absurd ht List.not_mem_nil
          | _ => rfl
        have hbr := hc.br i (by rw [ch2_len]; exact hi) (by rw [ch2_fin hi]; exact hf) hcl
        have hle : ∀ b ∈ (pat (ch2 g so st) i).br, v b.2 ≤ v p := fun b hb => by
          have hbl := (hbr.pos b hb).2
          rw [ch2_len] at hbl
          exact hp4 b.2 hbl hbl (hto _ (by rw [← e, hc.tg i (by rw [ch2_len]; exact hi)]; exact List.mem_map.mpr ⟨b, hb, rfl⟩))
        have ht2 : t ∈ (pat (ch2 g so st) i).br.map (·.2) := by rw [← hc.tg i (by rw [ch2_len]; exact hi)]; exact ht
        obtain ⟨b, hb1, rfl⟩ := List.mem_map.mp ht2
        have h3 := mean_ge (y := fun i => v p - v i) (bs := (pat (ch2 g so st) i).br) (b := b) (fun d hd => ⟨hbr.nn d hd, by have := hle d hd; show 0 ≤ v p - v d.2; grind⟩) hb1
        rw [mean_sub (fun _ => v p) v, mean_const, hbr.one, ← ha] at h3
        have h4 : b.1 * (v p - v b.2) ≤ 0 := by
          have h5 : b.1 * (v p - v b.2) ≤ v p * 1 - v i := h3
          grind
        have h5 : v b.2 = v p := by
          have h6 := (hbr.pos b hb1).1
          have h7 := hle b hb1
          refine Rat.le_antisymm h7 (Rat.not_lt.mp fun z => ?_)
          have h8 := Rat.mul_pos h6 (show 0 < v p - v b.2 by grind)
          grind
        exact ih htl (hto _ (by rw [← e]; exact ht)) h5
  have hr : Rf (ch2 g so st) p := Classical.byContradiction fun z => by
    have := hv.zero p (by rw [ch2_len]; exact hp1) z
    grind
  exact key p hr hp1 hp2 rfl
theorem us_le (hv : IsVal (ch2 g so st) v) (hv' : IsVal (ch2 g so' st) v') (hb : BtOk .us g so v so') : ∀ i, i < g.length → v i ≤ v' i := fun i hi =>
  le_of (ck_ch2 hg hso' hst) hv' (fun i hi hn => us_zero hg hso hso' hst hv hb i (by rw [ch2_len] at hi; exact hi) hn) (fun i hi hf => hv.one i (by rw [ch2_len] at hi ⊢; exact hi) (by rw [ch2_len] at hi; rw [ch2_fin hi] at hf ⊢; exact hf)) (fun i hi hf => by
    rw [ch2_len] at hi
    exact mean_us hg hso hso' hst hv (fun i hi hs => Rat.not_lt.mp (hb.top i hi hs _ (tgt_mem hso hi hs))) hi hf) i (by rw [ch2_len]; exact hi)
theorem us_lt (hv : IsVal (ch2 g so st) v) (hv' : IsVal (ch2 g so' st) v') (hb : BtOk .us g so v so') (hne : so' ≠ so) : ∃ i, i < g.length ∧ v i < v' i := by
  have hex : ∃ i, i < g.length ∧ so'.getD i none ≠ so.getD i none := Classical.byContradiction fun hno => hne (by
    apply List.ext_getElem?
    intro j
    by_cases hj : j < g.length
    · have := Classical.byContradiction fun z => hno ⟨j, hj, z⟩
      rw [List.getElem?_eq_getElem (by rw [hso'.len]; exact hj), List.getElem?_eq_getElem (by rw [hso.len]; exact hj)]
      rw [List.getD_eq_getElem?_getD, List.getD_eq_getElem?_getD, List.getElem?_eq_getElem (by rw [hso'.len]; exact hj), List.getElem?_eq_getElem (by rw [hso.len]; exact hj)] at this
      exact congrArg some this
    · rw [List.getElem?_eq_none (by rw [hso'.len]; omega), List.getElem?_eq_none (by rw [hso.len]; omega)])
  obtain ⟨i, hi, hd⟩ := hex
  have hs : (pat g i).side = some .us := Classical.byContradiction fun z => hd (by
    rw [List.getD_eq_getElem?_getD, List.getD_eq_getElem?_getD, hso'.no i hi z, hso.no i hi z])
  have h1 : v (tgt g so i) < v (tgt g so' i) := hb.up i hi hs hd
  have hf : (pat g i).isFin = false := by
    cases hp : pat g i with
    | fin => rw [hp] at hs; cases hs
    | _ => rfl
  have a1 := hv.avg' (ck_ch2 hg hso hst) (i := i) (by rw [ch2_len]; exact hi) (by rw [ch2_fin hi]; exact hf)
  have a2 := hv'.avg' (ck_ch2 hg hso' hst) (i := i) (by rw [ch2_len]; exact hi) (by rw [ch2_fin hi]; exact hf)
  rw [ch2_us hi hs] at a1 a2
  have a1' : v i = v (tgt g so i) := by rw [a1]; exact mean_single _ _
  have a2' : v' i = v' (tgt g so' i) := by rw [a2]; exact mean_single _ _
  have a3 := us_le hg hso hso' hst hv hv' hb (tgt g so' i) (tg_lt hg hi (tgt_mem hso' hi hs))
  exact ⟨i, hi, by grind⟩
theorem us_greatest (hv : IsVal (ch2 g so st) v) (hv' : IsVal (ch2 g so' st) v') (hb : BtOk .us g so v so) : ∀ i, i < g.length → v' i ≤ v i := fun i hi =>
  ge_of (ck_ch2 hg hso' hst) hv' (fun i hi => hv.ge0 (ck_ch2 hg hso hst) (by rw [ch2_len] at hi ⊢; exact hi)) (fun i hi hf => hv.one i (by rw [ch2_len] at hi ⊢; exact hi) (by rw [ch2_len] at hi; rw [ch2_fin hi] at hf ⊢; exact hf)) (fun i hi hf => by
    rw [ch2_len] at hi
    exact mean_us' hg hso hso' hst hv (fun i hi hs => Rat.not_lt.mp (hb.top i hi hs _ (tgt_mem hso' hi hs))) hi hf) i (by rw [ch2_len]; exact hi)
end
/-! ranks: how often can it be made better -/
def allS : Nat → List Strat
  | 0 => [[]]
  | n + 1 => (allS n).flatMap fun l => (none :: (List.range 6).map some).map fun o => o :: l
theorem mem_allS : ∀ (n : Nat) (s : Strat), s.length = n → (∀ b, some b ∈ s → b < 6) → s ∈ allS n
  | 0, s, h, _ => by
    cases s with
    | nil => exact List.mem_singleton_self _
    | cons a r => cases h
  | n + 1, s, h, hb => by
    cases s with
    | nil => cases h
    | cons a r =>
      have ih := mem_allS n r (by rw [List.length_cons] at h; omega) fun b hm => hb b (List.mem_cons_of_mem _ hm)
      refine List.mem_flatMap.mpr ⟨r, ih, List.mem_map.mpr ⟨a, ?_, rfl⟩⟩
      cases a with
      | none => exact List.mem_cons_self
      | some b => exact List.mem_cons_of_mem _ (List.mem_map.mpr ⟨b, List.mem_range.mpr (hb b List.mem_cons_self), rfl⟩)
theorem stok_all {s : Sd} (hg : GOk g) (h : StOk s g st) : st ∈ allS g.length := by
  refine mem_allS _ _ h.len fun b hb => ?_
  obtain ⟨i, hi, e⟩ := List.getElem_of_mem hb
  have hi' : i < g.length := by rw [← h.len]; exact hi
  by_cases hs : (pat g i).side = some s
  · obtain ⟨b', h1, h2⟩ := h.yes i hi' hs
    rw [List.getElem?_eq_getElem hi, e] at h1
    have hbb : b = b' := Option.some.inj (Option.some.inj h1)
    have := hg.pl i hi'
    have h6 : (pat g i).tgs.length ≤ 6 := by
      cases hp : pat g i with
      | draw bs => rw [hp] at this; show (bs.map (·.2)).length ≤ 6; rw [List.length_map]; exact this.2.1
      | ours ts => rw [hp] at this; exact this.2.1
      | theirs ts => rw [hp] at this; exact this.2.1
      | reward r x => show 1 ≤ 6; decide
      | fin => show 0 ≤ 6; decide
      | lose => show 0 ≤ 6; decide
    omega
  · have h1 := h.no i hi' hs
    rw [List.getElem?_eq_getElem hi, e] at h1
    cases h1
theorem filt_lt {α : Type} {p q : α → Bool} (h : ∀ i, q i = true → p i = true) (j : α) (hp : p j = true) (hq : q j = false) : ∀ l : List α, (l.filter q).length ≤ (l.filter p).length ∧ (j ∈ l → (l.filter q).length < (l.filter p).length)
  | [] => ⟨Nat.le_refl _, fun h => nomatch h⟩
  | a :: r => by
    have ih := filt_lt h j hp hq r
    cases ha : q a with
    | true =>
      rw [List.filter_cons_of_pos ha, List.filter_cons_of_pos (h a ha)]
      refine ⟨Nat.succ_le_succ ih.1, fun hm => ?_⟩
      rcases List.mem_cons.mp hm with e | e
      · subst e; rw [ha] at hq; cases hq
      · exact Nat.succ_lt_succ (ih.2 e)
    | false =>
      rw [List.filter_cons_of_neg (by rw [ha]; decide)]
      cases hb : p a with
      | true =>
        rw [List.filter_cons_of_pos hb, List.length_cons]
        refine ⟨Nat.le_succ_of_le ih.1, fun hm => ?_⟩
        rcases List.mem_cons.mp hm with e | e
        · exact Nat.lt_succ_of_le ih.1
        · exact Nat.lt_succ_of_lt (ih.2 e)
      | false =>
        rw [List.filter_cons_of_neg (by rw [hb]; decide)]
        refine ⟨ih.1, fun hm => ?_⟩
        rcases List.mem_cons.mp hm with e | e
        · subst e; rw [hp] at hb; cases hb
        · exact ih.2 e
/-- how many strategies of theirs have a sum that is less -/
noncomputable def rkT (g : Game) (so : Strat) (v : Nat → Rat) : Nat := ((allS g.length).filter fun s => cd (StOk .them g s ∧ ∃ w, IsVal (ch2 g so s) w ∧ sg g.length w < sg g.length v)).length
noncomputable def rkU (g : Game) (st : Strat) (v : Nat → Rat) : Nat := ((allS g.length).filter fun s => cd (StOk .us g s ∧ ∃ w, IsVal (ch2 g s st) w ∧ sg g.length v < sg g.length w)).length
theorem sg_lt : ∀ {n : Nat} {f h : Nat → Rat}, (∀ i, i < n → f i ≤ h i) → (∃ i, i < n ∧ f i < h i) → sg n f < sg n h
  | 0, _, _, _, ⟨i, hi, _⟩ => by omega
  | n + 1, f, h, hle, ⟨i, hi, hl⟩ => by
    show sg n f + f n < sg n h + h n
    have h1 := hle n (by omega)
    by_cases e : i = n
    · subst e
      have h2 := sg_le (n := i) (f := f) (g := h) fun j hj => hle j (by omega)
      grind
    · have h2 := sg_lt (n := n) (f := f) (h := h) (fun j hj => hle j (by omega)) ⟨i, by omega, hl⟩
      grind
theorem rkT_lt (hg : GOk g) (hso : StOk .us g so) (hst' : StOk .them g st') {v v' : Nat → Rat} (hv' : IsVal (ch2 g so st') v') (h : sg g.length v' < sg g.length v) : rkT g so v' < rkT g so v := by
  refine (filt_lt (fun s hs => ?_) st' (cd_iff.mpr ⟨hst', v', hv', h⟩) ?_ _).2 (stok_all hg hst')
  · obtain ⟨h1, w, h2, h3⟩ := cd_iff.mp hs
    exact cd_iff.mpr ⟨h1, w, h2, by grind⟩
  · refine Bool.eq_false_iff.mpr fun z => ?_
    obtain ⟨_, w, h2, h3⟩ := cd_iff.mp z
    have hc := ck_ch2 hg hso hst'
    have e : sg g.length w = sg g.length v' := sg_congr fun i hi => h2.uni hc hv' i (by rw [ch2_len]; exact hi)
    grind
theorem rkU_lt {so' : Strat} (hg : GOk g) (hst : StOk .them g st) (hso' : StOk .us g so') {v v' : Nat → Rat} (hv' : IsVal (ch2 g so' st) v') (h : sg g.length v < sg g.length v') : rkU g st v' < rkU g st v := by
  refine (filt_lt (fun s hs => ?_) so' (cd_iff.mpr ⟨hso', v', hv', h⟩) ?_ _).2 (stok_all hg hso')
  · obtain ⟨h1, w, h2, h3⟩ := cd_iff.mp hs
    exact cd_iff.mpr ⟨h1, w, h2, by grind⟩
  · refine Bool.eq_false_iff.mpr fun z => ?_
    obtain ⟨_, w, h2, h3⟩ := cd_iff.mp z
    have hc := ck_ch2 hg hso' hst
    have e : sg g.length w = sg g.length v' := sg_congr fun i hi => h2.uni hc hv' i (by rw [ch2_len]; exact hi)
    grind
end G
end
section
set_option linter.all false
/-! the law's own search of what reaches a finish -/
namespace G
variable {c : Game} {l : List Nat}
/-- taken in the next turn -/
def cnd (c : Game) (l : List Nat) (k : Nat) : Bool := !decide (k ∈ l) && ((pat c k).tgs.map fun x => decide (x ∈ l)).any id
theorem cnd_iff {k : Nat} : cnd c l k = true ↔ k ∉ l ∧ ∃ x, x ∈ (pat c k).tgs ∧ x ∈ l := by
  unfold cnd
  rw [Bool.and_eq_true, List.any_map, List.any_eq_true, Bool.not_eq_true', decide_eq_false_iff_not]
  constructor
  · rintro ⟨h1, x, h2, h3⟩; exact ⟨h1, x, h2, of_decide_eq_true h3⟩
  · rintro ⟨h1, x, h2, h3⟩; exact ⟨h1, x, h2, decide_eq_true h3⟩
structure RcOk (c : Game) (t : Nat) (l : List Nat) : Prop where
  nd : l.Nodup
  ok : ∀ x ∈ l, x < c.length ∧ Rf c x
  fin : ∀ x, x < c.length → (pat c x).isFin = true → x ∈ l
  go : (∀ k, k < c.length → cnd c l k = false) ∨ t ≤ l.length
def more (c : Game) (l : List Nat) : List Nat := (List.range c.length).filter (cnd c l)
theorem RcOk.start : RcOk c 0 ((List.range c.length).filter fun i => (pat c i).isFin) := by
  refine ⟨List.nodup_range.filter _, fun x hx => ?_, fun x hx h => List.mem_filter.mpr ⟨List.mem_range.mpr hx, h⟩, .inr (Nat.zero_le _)⟩
  obtain ⟨h1, h2⟩ := List.mem_filter.mp hx
  exact ⟨List.mem_range.mp h1, .fin h2⟩
theorem RcOk.step {t : Nat} (h : RcOk c t l) : RcOk c (t + 1) (l ++ more c l) := by
  have hm : ∀ x ∈ more c l, x < c.length ∧ cnd c l x = true := fun x hx => by
    obtain ⟨h1, h2⟩ := List.mem_filter.mp hx
    exact ⟨List.mem_range.mp h1, h2⟩
  refine ⟨List.nodup_append.mpr ⟨h.nd, List.nodup_range.filter _, fun a ha b hb e => ?_⟩, fun x hx => ?_, fun x hx hf => List.mem_append.mpr (.inl (h.fin x hx hf)), ?_⟩
  · subst e; exact (cnd_iff.mp (hm a hb).2).1 ha
  · rcases List.mem_append.mp hx with h1 | h1
    · exact h.ok x h1
    · obtain ⟨h2, h3⟩ := hm x h1
      obtain ⟨_, y, h4, h5⟩ := cnd_iff.mp h3
      exact ⟨h2, .step h4 (h.ok y h5).2⟩
  · by_cases he : more c l = []
    · left
      rw [he, List.append_nil]
      intro k hk
      refine Bool.eq_false_iff.mpr fun z => ?_
      have : k ∈ more c l := List.mem_filter.mpr ⟨List.mem_range.mpr hk, z⟩
      rw [he] at this; cases this
    · right
      have h1 : t ≤ l.length := by
        rcases h.go with h1 | h1
        · refine absurd ?_ he
          refine List.filter_eq_nil_iff.mpr fun k hk => ?_
          rw [h1 k (List.mem_range.mp hk)]; decide
        · exact h1
      have h2 : 1 ≤ (more c l).length := by
        cases hx : more c l with
        | nil => exact absurd hx he
        | cons a r => exact Nat.succ_le_succ (Nat.zero_le _)
      rw [List.length_append]
      omega
theorem RcOk.done (h : RcOk c c.length l) : ∀ x, x ∈ l ↔ x < c.length ∧ Rf c x := by
  have hcl : ∀ k, k < c.length → cnd c l k = false := by
    rcases h.go with h1 | h1
    · exact h1
    · intro k hk
      refine Bool.eq_false_iff.mpr fun z => ?_
      have hn := (cnd_iff.mp z).1
      have := nodup_le2 c.length (k :: l) (List.nodup_cons.mpr ⟨hn, h.nd⟩) fun a ha => by
        cases ha with
        | head => exact hk
        | tail _ ha => exact (h.ok a ha).1
      rw [List.length_cons] at this
      omega
  intro x
  refine ⟨h.ok x, fun hx => ?_⟩
  have key : ∀ x, Rf c x → x ∈ l := fun x r => by
    induction r with
    | fin hf => exact h.fin _ (rf_out (.fin hf)) hf
    | @step p t ht r ih =>
      refine Classical.byContradiction fun hn => ?_
      have h1 := hcl p (rf_out (.step ht r))
      rw [cnd_iff.mpr ⟨hn, t, ht, ih⟩] at h1
      cases h1
  exact key x hx.2
theorem RcOk.len {t : Nat} (h : RcOk c t l) : l.length ≤ c.length := nodup_le2 _ _ h.nd fun a ha => (h.ok a ha).1
end G
end
section
set_option linter.all false
/-! the law's own elimination: lines by places -/
namespace G
/-- a line by the unknown places, as a line by all places -/
def cl (m : Nat) (u : Nat → Nat) (a : Nat → Rat) (k : Nat) : Rat := sg m (fun j => if u j = k then a j else 0)
variable {m : Nat} {u : Nat → Nat} {a : Nat → Rat}
theorem cl_no {k : Nat} (h : ∀ j, j < m → u j ≠ k) : cl m u a k = 0 := by
  unfold cl
  rw [sg_congr (g := fun _ => 0) fun j hj => if_neg (h j hj), sg_zero]
theorem cl_u : ∀ {m : Nat}, (∀ i j, i < m → j < m → u i = u j → i = j) → ∀ {j : Nat}, j < m → cl m u a (u j) = a j
  | m + 1, hi, j, hj => by
    show cl m u a (u j) + (if u m = u j then a m else 0) = a j
    by_cases e : j = m
    · subst e
      rw [cl_no fun i hi' e => by have := hi i j (by omega) (by omega) e; omega, if_pos rfl]; grind
    · rw [cl_u (fun i j h1 h2 => hi i j (by omega) (by omega)) (by omega), if_neg fun z => e (hi j m (by omega) (by omega) z.symm)]; grind
theorem sg_hit : ∀ {n x : Nat} (b : Nat → Rat), x < n → sg n (fun k => if x = k then b k else 0) = b x
  | n + 1, x, b, h => by
    show sg n (fun k => if x = k then b k else 0) + (if x = n then b n else 0) = b x
    by_cases e : x = n
    · subst e
      rw [if_pos rfl, sg_congr (g := fun _ => 0) fun k hk => if_neg (by omega), sg_zero]; grind
    · rw [if_neg e, sg_hit b (by omega)]; grind
theorem cl_sum : ∀ {m : Nat} {n : Nat} (f : Nat → Rat), (∀ j, j < m → u j < n) → sg n (fun k => cl m u a k * f k) = sg m (fun j => a j * f (u j))
  | 0, n, f, _ => by
    rw [sg_congr (g := fun _ => 0) fun k _ => by show 0 * _ = _; grind, sg_zero]; rfl
  | m + 1, n, f, h => by
    have e : sg n (fun k => cl (m + 1) u a k * f k) = sg n (fun k => cl m u a k * f k + (if u m = k then a m * f k else 0)) := sg_congr fun k _ => by
      show (cl m u a k + (if u m = k then a m else 0)) * f k = _
      split <;> grind
    rw [e, sg_add, cl_sum f fun j hj => h j (by omega), sg_hit (fun k => a m * f k) (h m (by omega))]
    rfl
theorem cl_cases {P : Nat → Rat → Prop} (hi : ∀ i j, i < m → j < m → u i = u j → i = j) (h0 : P 0 0 ∨ True) (k : Nat) : (∃ j, j < m ∧ u j = k) ∨ (∀ j, j < m → u j ≠ k) := by
  by_cases h : ∃ j, j < m ∧ u j = k
  · exact .inl h
  · exact .inr fun j hj e => h ⟨j, hj, e⟩
theorem hit_or (m : Nat) (u : Nat → Nat) (k : Nat) : (∃ j, j < m ∧ u j = k) ∨ (∀ j, j < m → u j ≠ k) := by
  by_cases h : ∃ j, j < m ∧ u j = k
  · exact .inl h
  · exact .inr fun j hj e => h ⟨j, hj, e⟩
section
variable {S : Nat → Nat → Rat} {t : Nat} (hi : ∀ i j, i < m → j < m → u i = u j → i = j) (ht : t < m) (h0 : 1 - S t t ≠ 0)
include hi ht h0
/-- the line of the pivot -/
theorem cl_row (k : Nat) : (if k = u t then 0 else cl m u (S t) k / (1 - S t t)) = cl m u (elim t S t) k := by
  rcases hit_or m u k with ⟨j, hj, rfl⟩ | h
  · rw [cl_u hi hj, cl_u hi hj]
    by_cases e : j = t
    · subst e; rw [if_pos rfl, elim_at]
    · rw [if_neg fun z => e (hi j t hj ht z), elim_row S e h0]; grind
  · rw [if_neg fun z => h t ht z.symm, cl_no h, cl_no h]; grind
theorem done_row : S t m / (1 - S t t) = elim t S t m := by
  rw [elim_row S (by omega) h0]; grind
/-- another line, turned -/
theorem cl_oth (i k : Nat) : (if k = u t then 0 else cl m u (S i) k + S i t * cl m u (elim t S t) k) = cl m u (elim t S i) k := by
  rcases hit_or m u k with ⟨j, hj, rfl⟩ | h
  · rw [cl_u hi hj, cl_u hi hj, cl_u hi hj]
    by_cases e : j = t
    · subst e; rw [if_pos rfl, elim_at]
    · rw [if_neg fun z => e (hi j t hj ht z), elim_row S e h0, elim_ne S i e]; grind
  · rw [if_neg fun z => h t ht z.symm, cl_no h, cl_no h, cl_no h]; grind
theorem done_oth (i : Nat) : S i m + S i t * elim t S t m = elim t S i m := by
  rw [elim_row S (by omega) h0, elim_ne S i (by omega)]; grind
/-- a line in which the variable does not stand -/
theorem cl_same (i k : Nat) (hz : S i t = 0) : cl m u (S i) k = cl m u (elim t S i) k := by
  rcases hit_or m u k with ⟨j, hj, rfl⟩ | h
  · rw [cl_u hi hj, cl_u hi hj]
    by_cases e : j = t
    · subst e; rw [elim_at, hz]
    · rw [elim_ne S i e, hz]; grind
  · rw [cl_no h, cl_no h]
theorem done_same (i : Nat) (hz : S i t = 0) : S i m = elim t S i m := by
  rw [elim_ne S i (by omega), hz]; grind
end
/-- what the numbers at last are, from the line that was kept -/
theorem sol_back {P : Nat → Nat → Rat} (h : Sy m P) {s : Nat} (hs : s < m) : stage P m s m = stage P (s + 1) s m + sg m (fun l => stage P (s + 1) s l * stage P m l m) := by
  have hx : ∀ j, j < m → stage P m j m = P j m + sg m (fun l => P j l * stage P m l m) := fun j _ => stage_is h j m (Nat.le_refl m) m (Nat.le_refl m)
  have a1 := mp_stage h (Nat.le_refl m) (c := 1) (x := fun j => stage P m j m) (fun j hj => by show stage P m j m ≤ 1 * P j m + _; rw [hx j hj]; grind) (s + 1) (by omega) s hs
  have a2 := mp_stage h (Nat.le_refl m) (c := -1) (x := fun j => - stage P m j m) (fun j hj => by
    have e : sg m (fun l => P j l * - stage P m l m) = - sg m (fun l => P j l * stage P m l m) := by
      have : sg m (fun l => P j l * - stage P m l m) = sg m (fun l => (-1) * (P j l * stage P m l m)) := sg_congr fun l _ => by grind
      rw [this, sg_mul]; grind
    show - stage P m j m ≤ -1 * P j m + sg m (fun l => P j l * - stage P m l m)
    rw [e, hx j hj]; grind) (s + 1) (by omega) s hs
  have e : sg m (fun l => stage P (s + 1) s l * - stage P m l m) = - sg m (fun l => stage P (s + 1) s l * stage P m l m) := by
    have : sg m (fun l => stage P (s + 1) s l * - stage P m l m) = sg m (fun l => (-1) * (stage P (s + 1) s l * stage P m l m)) := sg_congr fun l _ => by grind
    rw [this, sg_mul]; grind
  have a2' : - stage P m s m ≤ -1 * stage P (s + 1) s m + sg m (fun l => stage P (s + 1) s l * - stage P m l m) := a2
  have a1' : stage P m s m ≤ 1 * stage P (s + 1) s m + sg m (fun l => stage P (s + 1) s l * stage P m l m) := a1
  rw [e] at a2'
  grind
/-- found so far, from the last of the unknown places on -/
def fnd (c : Game) (m : Nat) (u : Nat → Nat) (x : Nat → Rat) (s : Nat) (k : Nat) : Rat := if (pat c k).isFin = true then 1 else cl m u (fun j => if s ≤ j then x j else 0) k
theorem osum_kn {c : Game} (h : En c m u) (bs : List (Rat × Nat)) : osum m u (kn c) bs = mean bs (kn c) := by
  rw [osum_mean]
  refine mean_congr fun b _ => ?_
  show (if inU m u b.2 = true then 0 else kn c b.2) = kn c b.2
  split
  · rename_i z
    obtain ⟨k, hk, e⟩ := inU_iff.mp z
    unfold kn
    rw [if_neg (by rw [← e, (h.mem k hk).2.2]; decide)]
  · rfl
end G
end
section
set_option linter.all false
/-! the law's own elimination: from the last line back -/
namespace G
variable {c : Game} {m : Nat} {u : Nat → Nat}
theorem fnd_fin {x : Nat → Rat} {s k : Nat} (h : (pat c k).isFin = true) : fnd c m u x s k = 1 := if_pos h
theorem fnd_u (h : En c m u) {x : Nat → Rat} {s j : Nat} (hj : j < m) : fnd c m u x s (u j) = if s ≤ j then x j else 0 := by
  unfold fnd
  rw [if_neg (by rw [(h.mem j hj).2.2]; decide), cl_u h.inj hj]
theorem fnd_no {x : Nat → Rat} {s k : Nat} (hf : (pat c k).isFin = false) (hn : ∀ j, j < m → u j ≠ k) : fnd c m u x s k = 0 := by
  unfold fnd
  rw [if_neg (by rw [hf]; decide), cl_no hn]
theorem fnd_start {x : Nat → Rat} (k : Nat) : fnd c m u x m k = kn c k := by
  unfold fnd kn
  split
  · rfl
  · unfold cl
    rw [sg_congr (g := fun _ => 0) fun j hj => by
      show (if u j = k then (if m ≤ j then x j else 0) else 0) = 0
      rw [if_neg (show ¬ m ≤ j by omega)]; split <;> rfl, sg_zero]
theorem fnd_set (h : En c m u) {x : Nat → Rat} {j : Nat} (hj : j < m) (k : Nat) : (if k = u j then x j else fnd c m u x (j + 1) k) = fnd c m u x j k := by
  by_cases e : k = u j
  · rw [if_pos e, e, fnd_u h hj, if_pos (Nat.le_refl j)]
  · rw [if_neg e]
    rcases hit_or m u k with ⟨i, hi, rfl⟩ | hn
    · rw [fnd_u h hi, fnd_u h hi]
      have hij : i ≠ j := fun z => e (by rw [z])
      by_cases h2 : j + 1 ≤ i
      · rw [if_pos h2, if_pos (by omega)]
      · rw [if_neg h2, if_neg (by omega)]
    · unfold fnd
      split
      · rfl
      · rw [cl_no hn, cl_no hn]
theorem fnd_sum (h : En c m u) {P : Nat → Nat → Rat} (hP : Sy m P) {j : Nat} (hj : j < m) : stage P (j + 1) j m + sg c.length (fun k => cl m u (stage P (j + 1) j) k * fnd c m u (fun i => stage P m i m) (j + 1) k) = stage P m j m := by
  rw [cl_sum _ fun i hi => (h.mem i hi).1, sol_back hP hj]
  congr 1
  refine sg_congr fun l hl => ?_
  rw [fnd_u h hl]
  by_cases h2 : j + 1 ≤ l
  · rw [if_pos h2]
  · rw [if_neg h2, stage_zero P (j + 1) j l (by omega)]; grind
theorem fnd_val (hc : Ck c) (h : En c m u) : IsVal c (fnd c m u (fun i => stage (sysG c m u (kn c)) m i m) 0) :=
  isval_of hc h (fun i _ hf => fnd_fin hf) (fun k hk => by rw [fnd_u h hk, if_pos (Nat.zero_le k)]) fun i _ hf hn => fnd_no hf hn
/-- the unknown places, in the order of a list -/
theorem en_of {l : List Nat} (hnd : l.Nodup) (hl : ∀ x, x ∈ l ↔ x < c.length ∧ Rf c x) : En c (l.filter fun x => !(pat c x).isFin).length (fun j => (l.filter fun x => !(pat c x).isFin).getD j 0) := by
  have hnd2 : (l.filter fun x => !(pat c x).isFin).Nodup := hnd.filter _
  generalize hL : (l.filter fun x => !(pat c x).isFin) = L at hnd2
  have hg : ∀ j, j < L.length → L[j]? = some (L.getD j 0) := fun j hj => by
    rw [List.getD_eq_getElem?_getD, List.getElem?_eq_getElem hj]; rfl
  have hm : ∀ x, x ∈ L ↔ x ∈ l ∧ (pat c x).isFin = false := fun x => by
    rw [← hL, List.mem_filter]
    cases (pat c x).isFin <;> simp
  refine ⟨fun i j hi hj e => ?_, fun k hk => ?_, fun i hi hr hf => ?_⟩
  · have h1 := hg i hi
    have h2 := hg j hj
    have e' : L.getD i 0 = L.getD j 0 := e
    rw [e'] at h1
    exact (List.getElem?_inj hi hnd2).mp (h1.trans h2.symm)
  · have h1 := (hm _).mp (List.mem_of_getElem? (hg k hk))
    exact ⟨((hl _).mp h1.1).1, ((hl _).mp h1.1).2, h1.2⟩
  · obtain ⟨k, hk, e⟩ := List.getElem_of_mem ((hm i).mpr ⟨(hl i).mpr ⟨hi, hr⟩, hf⟩)
    refine ⟨k, hk, ?_⟩
    have := hg k hk
    rw [List.getElem?_eq_getElem hk, e] at this
    exact (Option.some.inj this).symm
/-- a line of the system by places, before the elimination -/
theorem cl_start (h : En c m u) {j : Nat} (hj : j < m) {k : Nat} (hk : k < c.length) (L : Rat) (hL : L = if cd (Rf c k ∧ (pat c k).isFin = false) = true then psum (pat c (u j)).br k else 0) : L = cl m u (sysG c m u (kn c) j) k := by
  rw [hL]
  rcases hit_or m u k with ⟨i, hi, rfl⟩ | hn
  · rw [if_pos (cd_iff.mpr (h.mem i hi).2), cl_u h.inj hi, sys_lt hi]
  · rw [cl_no hn, if_neg fun z => by
      obtain ⟨i, hi, e⟩ := h.all k hk (cd_iff.mp z).1 (cd_iff.mp z).2
      exact hn i hi e]
end G
end
section
set_option Elab.async false
set_option linter.all false
set_option maxRecDepth 100000
set_option maxHeartbeats 4000000
/-! walks: chains, lines -/
namespace G
open PySem PySem.Spec PyProof.Rows L2
local macro_rules | `(tactic| walk_at "ev") => `(tactic| repeat' (first
  | ((with_reducible refine' ev_var ?_); rfl) | ((with_reducible refine' EvD.l (ev_var ?_)); rfl) | ((with_reducible refine' el_bor ?_); rfl) | ((with_reducible refine' EvC.l (ec_var ?_)); rfl) | ((with_reducible refine' evv_var ?_); rfl) | with_reducible exact ev_int | with_reducible exact ev_str | with_reducible exact ev_bl | with_reducible exact ev_non
  | ((with_reducible refine' Tx.evN ?_); assumption) | ((with_reducible refine' Tx.evO ?_); assumption)
  | with_reducible exact ea_nil | with_reducible refine' ea_dat ?_ ?_ | with_reducible refine' ea_bor ?_ ?_ | with_reducible refine' ea_val ?_ ?_
  | with_reducible refine' ev_add ?_ ?_ | with_reducible refine' ev_sub ?_ ?_ | with_reducible refine' ev_mulW ?_ ?_ ?_ | with_reducible refine' ev_neg ?_ | with_reducible refine' ev_cmp ?_ ?_
  | with_reducible refine' ev_q0 ?_ | with_reducible refine' ev_q1 ?_
  | with_reducible refine' ev_k_draw ?_ | with_reducible refine' ev_k_ours ?_ | with_reducible refine' ev_k_theirs ?_ | with_reducible refine' ev_k_reward ?_ | with_reducible refine' ev_k_fin ?_ | with_reducible refine' ev_k_lose ?_
  | with_reducible refine' ev_n_draw ?_ | with_reducible refine' ev_n_ours ?_ | with_reducible refine' ev_n_theirs ?_ | with_reducible refine' ev_n_reward ?_ | with_reducible refine' ev_n_fin ?_ | with_reducible refine' ev_n_lose ?_
  | with_reducible refine' ev_side ?_ ?_ | with_reducible refine' ev_kind ?_
  | with_reducible refine' eb_test ?_ | with_reducible refine' eb_B ?_ | with_reducible refine' ev_int1 ?_ | with_reducible refine' eb_not ?_ | with_reducible refine' eb_or ?_ (fun _ => ?_) | with_reducible refine' eb_and ?_ (fun _ => ?_) | with_reducible refine' ev_t0 ?_ | with_reducible refine' ev_t1 ?_ | with_reducible refine' ev_t2 ?_))
local macro_rules | `(tactic| walk_at "ifT") => `(tactic| (refine' hs_seq (hs_ifT (b := _) ?h ?n ?e); (case h => walk_at "ev"); (case e => rfl)))
local macro_rules | `(tactic| walk_at "ifF") => `(tactic| (refine' hs_seq (hs_ifF (b := _) ?h (hs_next ?n) ?e); (case h => walk_at "ev"); (case e => rfl)))
section
variable {Pg : Program} {w : World} {K : PySem.W.Frag} {mg : Str → Option Value} {base : Heap} {aN aO : Addr}
/-! branches: level 1; slots 0 chain, 1 place; calls [] -/
abbrev s_branches : Stmt := topS 23
theorem sc_branches : FnScope ["chain", "place"] ["chain", "place"] (defScope s_branches) := ⟨rfl, rfl, rfl, by decide +kernel, rfl, by decide +kernel, by decide +kernel⟩
def S_branches : List Ar → (PyData → Prop) → Prop := fun as R => ∃ (g : Game) (p : Nat), as = [.dat (eG g), .dat (eN p)] ∧ p < g.length ∧ R (.list ((pat g p).br.map eB))
theorem ok_branches {f : Addr} {fd : FuncData} (T : Tx K mg aN aO) (F : Fun K "branches" "branches" s_branches f fd) : FnOk Pg w K mg base CX0 1 f fd ["chain", "place"] (spD K S_branches) := by
  refine fok F sc_branches (fun as R h => ?len) fun cdv A outer s H E hr => ?_
  case len => obtain ⟨g, i, rfl, _⟩ := h; rfl
  have nd := sc_branches.nd
  refine ⟨_, (pss_cons (ps_if (pt_cmpR op_eq (kx_ixT (K := K) rfl (kx_ixL (K := K) rfl (pv 0) (pv 1) (fun _ _ => rfl)) pe_int (fun _ _ => rfl)) pe_str (nomark _)) (pss_one (ps_ret (kx_list (K := K) rfl (by rfl) T.list (pa_cons (kx_ixT (K := K) rfl (kx_ixL (K := K) rfl (pv 0) (pv 1) (fun _ _ => rfl)) pe_int (fun _ _ => rfl)) pa_nil)))) pss_nil)
        (pss_cons (ps_if (pt_cmpR op_eq (kx_ixT (K := K) rfl (kx_ixL (K := K) rfl (pv 0) (pv 1) (fun _ _ => rfl)) pe_int (fun _ _ => rfl)) pe_str (nomark _)) (pss_one (ps_ret (pe_lst (pa_cons (pe_tup (pa_cons (pe_glob (v := .ref aO) rfl T.ONE rfl) (pa_cons (kx_ixT (K := K) rfl (kx_ixL (K := K) rfl (pv 0) (pv 1) (fun _ _ => rfl)) pe_int (fun _ _ => rfl)) pa_nil))) pa_nil)))) pss_nil)
        (pss_one (ps_ret (pe_lst pa_nil))))), fun as R hS => ?_⟩
  obtain ⟨g, p, rfl, hp, hR⟩ := hS
  have hix : ∀ ρ : List Sl, ρ[0]? = some (.dat (eG g)) → ρ[1]? = some (.dat (eN p)) → EvD K w (tOp (rIxL K) (tVar 0) (tVar 1)) ρ (ePl (pat g p)) := fun ρ h1 h2 => ev_ixG (ev_var h1) (ev_var h2) hp
  revert hR hix
  cases pat g p with
  | draw bs =>
    intro hR hix
    exact hs_seq (hs_ifT (eb_test (ev_k_draw (hix _ rfl rfl))) (hs_ret (en_list (EvD.l (ev_t1 (hix _ rfl rfl)))).f hR) rfl)
  | reward r x =>
    intro hR hix
    refine hs_seq (hs_ifF (eb_test (ev_k_draw (hix _ rfl rfl))) (hs_next ?_) rfl)
    exact hs_seq (hs_ifT (eb_test (ev_k_reward (hix _ rfl rfl))) (hs_ret (EvN.f (en_lst (ds := [_]) (ea_dat (ev_tup (ds := [_, _]) (ea_dat (Tx.evO T) (ea_dat (ev_t2 (hix _ rfl rfl)) ea_nil)) (by show 2 ≤ 100000; decide)) ea_nil) (by show 1 ≤ 100000; decide))) hR) rfl)
  | ours ts =>
    intro hR hix
    refine hs_seq (hs_ifF (eb_test (ev_k_draw (hix _ rfl rfl))) (hs_next ?_) rfl)
    refine hs_seq (hs_ifF (eb_test (ev_k_reward (hix _ rfl rfl))) (hs_next ?_) rfl)
    exact hs_ret (EvN.f (en_lst (ds := []) ea_nil (by show 0 ≤ 100000; decide))) hR
  | theirs ts =>
    intro hR hix
    refine hs_seq (hs_ifF (eb_test (ev_k_draw (hix _ rfl rfl))) (hs_next ?_) rfl)
    refine hs_seq (hs_ifF (eb_test (ev_k_reward (hix _ rfl rfl))) (hs_next ?_) rfl)
    exact hs_ret (EvN.f (en_lst (ds := []) ea_nil (by show 0 ≤ 100000; decide))) hR
  | fin =>
    intro hR hix
    refine hs_seq (hs_ifF (eb_test (ev_k_draw (hix _ rfl rfl))) (hs_next ?_) rfl)
    refine hs_seq (hs_ifF (eb_test (ev_k_reward (hix _ rfl rfl))) (hs_next ?_) rfl)
    exact hs_ret (EvN.f (en_lst (ds := []) ea_nil (by show 0 ≤ 100000; decide))) hR
  | lose =>
    intro hR hix
    refine hs_seq (hs_ifF (eb_test (ev_k_draw (hix _ rfl rfl))) (hs_next ?_) rfl)
    refine hs_seq (hs_ifF (eb_test (ev_k_reward (hix _ rfl rfl))) (hs_next ?_) rfl)
    exact hs_ret (EvN.f (en_lst (ds := []) ea_nil (by show 0 ≤ 100000; decide))) hR
/-! all_reached: level 3; slots 0 chain, 1 place; calls ['reached 2'] -/
abbrev s_all_reached : Stmt := topS 24
theorem sc_all_reached : FnScope ["chain", "place"] ["chain"] (defScope s_all_reached) := ⟨rfl, rfl, rfl, by decide +kernel, rfl, by decide +kernel, by decide +kernel⟩
def S_all_reached : List Ar → (PyData → Prop) → Prop := fun as R => ∃ g : Game, as = [.dat (eG g)] ∧ GW g ∧ ∀ ls : List (List Nat), ls.length = g.length → (∀ i l, ls[i]? = some l → ∀ x, x ∈ l ↔ Reach g i x) → R (.list (ls.map eNs))
theorem ok_all_reached {f : Addr} {fd : FuncData} (T : Tx K mg aN aO) (F : Fun K "all_reached" "all_reached" s_all_reached f fd) (c_reached : Cal Pg w K mg base 2 "reached" (spD K S_reached)) : FnOk Pg w K mg base CX0 3 f fd ["chain"] (spD K S_all_reached) := by
  refine fok F sc_all_reached (fun as R h => ?len) fun cdv A outer s H E hr => ?_
  case len => obtain ⟨g, rfl, _⟩ := h; rfl
  have nd := sc_all_reached.nd
  refine ⟨_, (pss_one (ps_ret (pe_lc (own := [("place", 1)]) (g := (gName 1)) (by rfl) nd (pi_range1 (by rfl) T.range (pa_cons (kx_len (K := K) rfl (by rfl) T.len (pa_cons (pv 0) pa_nil)) pa_nil)) (blkOk_by (N := ["chain", "place"]) (sc := defScope s_all_reached) (by decide +kernel)) (fun _ _ _ _ _ => (pg_name (i := 1) nd rfl (Or.inl rfl))) (fun _ _ _ _ _ => pts_nil) (fun _ _ _ _ _ => (pe_c c_reached hr (by decide) (by rfl) (pa_cons (pv 0) (pa_cons (pv 1) pa_nil))))))), fun as R hS => ?_⟩
  obtain ⟨g, rfl, hg, hR⟩ := hS
  have hgl := hg.len
  refine hs_retR (EvNR.f (R' := fun d => R d) (enr_map (enc := eN) (List.range g.length) (fun i d => ∃ l : List Nat, d = eNs l ∧ ∀ x, x ∈ l ↔ Reach g i x) (ei_rangeN (n := g.length) ?_ (by omega)) (by rw [List.length_range]; omega) fun i hi => ⟨_, .name 1 (eN i), ?_⟩) fun ds hds => ?_) (fun d hd => hd)
  · refine (ev_len (EvD.l (ev_var rfl))).is ?_
    rw [List.length_map]
  · exact evr_call (as := [.dat (eG g), .dat (eN i)]) (by walk_at "ev") fun R' hR' => ⟨g, i, rfl, hg, List.mem_range.mp hi, fun l hl => hR' _ ⟨l, rfl, hl⟩⟩
  · obtain ⟨h1, h2⟩ := hds
    rw [List.length_range] at h1
    obtain ⟨ls, rfl, h3⟩ := typed_list eNs (fun i l => ∀ x, x ∈ l ↔ Reach g i x) ds 0 fun i d hd => by
      have hi : i < g.length := by rw [← h1]; exact (List.getElem?_eq_some_iff.mp hd).1
      rw [Nat.zero_add]
      exact h2 i i d (by rw [List.getElem?_range hi]) hd
    rw [List.length_map] at h1
    exact hR ls h1 fun i l hl => by
      have := h3 i l hl
      rwa [Nat.zero_add] at this
/-- a line: factors, bound, multipliers -/
def eLn (n m : Nat) (f : Nat → Rat) (b : Rat) (g : Nat → Rat) : PyData := .tuple [eFq n f, num b, eFq m g]
/-! scaled: level 3; slots 0 line, 1 by, 2 one; calls ['times 2'] -/
abbrev s_scaled : Stmt := topS 17
theorem sc_scaled : FnScope ["line", "by", "one"] ["line", "by"] (defScope s_scaled) := ⟨rfl, rfl, rfl, by decide +kernel, rfl, by decide +kernel, by decide +kernel⟩
def S_scaled : List Ar → (PyData → Prop) → Prop := fun as R => ∃ (n m : Nat) (f : Nat → Rat) (b : Rat) (g : Nat → Rat) (c : Rat), as = [.dat (eLn n m f b g), .dat (num c)] ∧ n ≤ 100 ∧ m ≤ 100 ∧ (∀ k, k < n → Sm 4000 (f k)) ∧ Sm 4000 b ∧ (∀ k, k < m → Sm 4000 (g k)) ∧ Sm 4000 c ∧ R (eLn n m (fun k => c * f k) (c * b) fun k => c * g k)
theorem ok_scaled {f : Addr} {fd : FuncData} (T : Tx K mg aN aO) (F : Fun K "scaled" "scaled" s_scaled f fd) (c_times : Cal Pg w K mg base 2 "times" (spD K (S_two (· * ·)))) : FnOk Pg w K mg base CX0 3 f fd ["line", "by"] (spD K S_scaled) := by
  refine fok F sc_scaled (fun as R h => ?len) fun cdv A outer s H E hr => ?_
  case len => obtain ⟨_, _, _, _, _, _, rfl, _⟩ := h; rfl
  have nd := sc_scaled.nd
  refine ⟨_, (pss_one (ps_ret (pe_tup (pa_cons (pe_lc (own := [("one", 2)]) (g := (gName 2)) (by rfl) nd (ki_list (K := K) rfl (kx_ixT (K := K) rfl (pv 0) pe_int (fun _ _ => rfl))) (blkOk_by (N := ["line", "by", "one"]) (sc := defScope s_scaled) (by decide +kernel)) (fun _ _ _ _ _ => (pg_name (i := 2) nd rfl (Or.inl rfl))) (fun _ _ _ _ _ => pts_nil) (fun _ _ _ _ _ => (pe_c c_times hr (by decide) (by rfl) (pa_cons (pv 1) (pa_cons (pv 2) pa_nil))))) (pa_cons (pe_c c_times hr (by decide) (by rfl) (pa_cons (pv 1) (pa_cons (kx_ixT (K := K) rfl (pv 0) pe_int (fun _ _ => rfl)) pa_nil))) (pa_cons (pe_lc (own := [("one", 2)]) (g := (gName 2)) (by rfl) nd (ki_list (K := K) rfl (kx_ixT (K := K) rfl (pv 0) pe_int (fun _ _ => rfl))) (blkOk_by (N := ["line", "by", "one"]) (sc := defScope s_scaled) (by decide +kernel)) (fun _ _ _ _ _ => (pg_name (i := 2) nd rfl (Or.inl rfl))) (fun _ _ _ _ _ => pts_nil) (fun _ _ _ _ _ => (pe_c c_times hr (by decide) (by rfl) (pa_cons (pv 1) (pa_cons (pv 2) pa_nil))))) pa_nil)))))), fun as R hS => ?_⟩
  obtain ⟨n, m, f, b, g, c, rfl, hn, hm, hf, hb, hg, hc, hR⟩ := hS
  refine hs_ret (ev_tup (ds := [_, _, _]) (ea_dat (EvN.f (en_mapF (n := n) (fun k => num (c * f k)) (ei_list (ev_t0 (ev_var rfl))) (by omega) fun k hk => ⟨_, .name 2 _, ev_two (op := (· * ·)) (ev_var rfl) (ev_var rfl) hc (hf k hk)⟩)) (ea_dat (ev_two (op := (· * ·)) (ev_var rfl) (ev_t1 (ev_var rfl)) hc hb) (ea_dat (EvN.f (en_mapF (n := m) (fun k => num (c * g k)) (ei_list (ev_t2 (ev_var rfl))) (by omega) fun k hk => ⟨_, .name 2 _, ev_two (op := (· * ·)) (ev_var rfl) (ev_var rfl) hc (hg k hk)⟩)) ea_nil))) (by show 3 ≤ 100000; decide)) ?_
  exact hR
/-! without: level 4; slots 0 line, 1 place, 2 other, 3 less, 4 factors, 5 multipliers, 6 one, 7 two; calls ['scaled 3', 'minus 2'] -/
abbrev s_without : Stmt := topS 18
theorem sc_without : FnScope ["line", "place", "other", "less", "factors", "multipliers", "one", "two"] ["line", "place", "other"] (defScope s_without) := ⟨rfl, rfl, rfl, by decide +kernel, rfl, by decide +kernel, by decide +kernel⟩
def S_without : List Ar → (PyData → Prop) → Prop := fun as R => ∃ (n m : Nat) (f : Nat → Rat) (b : Rat) (g : Nat → Rat) (p : Nat) (f' : Nat → Rat) (b' : Rat) (g' : Nat → Rat), as = [.dat (eLn n m f b g), .dat (eN p), .dat (eLn n m f' b' g')] ∧ n ≤ 100 ∧ m ≤ 100 ∧ p < n ∧ (∀ k, k < n → Sm 1000 (f k)) ∧ Sm 1000 b ∧ (∀ k, k < m → Sm 1000 (g k)) ∧ (∀ k, k < n → Sm 1000 (f' k)) ∧ Sm 1000 b' ∧ (∀ k, k < m → Sm 1000 (g' k)) ∧ R (eLn n m (fun k => f k - f p * f' k) (b - f p * b') fun k => g k - f p * g' k)
theorem ok_without {f : Addr} {fd : FuncData} (T : Tx K mg aN aO) (F : Fun K "without" "without" s_without f fd) (c_scaled : Cal Pg w K mg base 3 "scaled" (spD K S_scaled)) (c_minus : Cal Pg w K mg base 2 "minus" (spD K (S_two (· - ·)))) : FnOk Pg w K mg base CX0 4 f fd ["line", "place", "other"] (spD K S_without) := by
  refine fok F sc_without (fun as R h => ?len) fun cdv A outer s H E hr => ?_
  case len => obtain ⟨_, _, _, _, _, _, _, _, _, rfl, _⟩ := h; rfl
  have nd := sc_without.nd
  refine ⟨_, (pss_cons (ps_if (kt_eqD (K := K) rfl hr (kx_ixL (K := K) rfl (kx_ixT (K := K) rfl (pv 0) pe_int (fun _ _ => rfl)) (pv 1) (fun _ _ => rfl)) (pe_glob (v := .ref aN) rfl T.NOUGHT rfl)) (pss_one (ps_ret (pv 0))) pss_nil)
        (pss_cons (ps_set (i := 3) nd rfl (Or.inl rfl) (pe_c c_scaled hr (by decide) (by rfl) (pa_cons (pv 2) (pa_cons (kx_ixL (K := K) rfl (kx_ixT (K := K) rfl (pv 0) pe_int (fun _ _ => rfl)) (pv 1) (fun _ _ => rfl)) pa_nil))))
        (pss_cons (ps_setLc (i := 4) (own := [("one", 6), ("two", 7)]) (g := (gTup K 2 (gCons (gName 6) (gCons (gName 7) gNil)))) (by rfl) nd rfl rfl (sw_true rfl rfl rfl (by decide +kernel)) (ki_zip (K := K) rfl (by rfl) T.zip (pa_cons (kx_ixT (K := K) rfl (pv 0) pe_int (fun _ _ => rfl)) (pa_cons (kx_ixT (K := K) rfl (pv 3) pe_int (fun _ _ => rfl)) pa_nil))) (blkOk_by (N := ["line", "place", "other", "less", "factors", "multipliers", "one", "two"]) (sc := defScope s_without) (by decide +kernel)) (fun _ _ _ _ _ => (kg_tup (K := K) (n := 2) rfl rfl (pgs_cons (pg_name (i := 6) nd rfl (Or.inl rfl)) (pgs_cons (pg_name (i := 7) nd rfl (Or.inl rfl)) pgs_nil)))) (fun _ _ _ _ _ => pts_nil) (fun _ _ _ _ _ => (pe_c c_minus hr (by decide) (by rfl) (pa_cons (pv 6) (pa_cons (pv 7) pa_nil)))))
        (pss_cons (ps_setLc (i := 5) (own := [("one", 6), ("two", 7)]) (g := (gTup K 2 (gCons (gName 6) (gCons (gName 7) gNil)))) (by rfl) nd rfl rfl (sw_true rfl rfl rfl (by decide +kernel)) (ki_zip (K := K) rfl (by rfl) T.zip (pa_cons (kx_ixT (K := K) rfl (pv 0) pe_int (fun _ _ => rfl)) (pa_cons (kx_ixT (K := K) rfl (pv 3) pe_int (fun _ _ => rfl)) pa_nil))) (blkOk_by (N := ["line", "place", "other", "less", "factors", "multipliers", "one", "two"]) (sc := defScope s_without) (by decide +kernel)) (fun _ _ _ _ _ => (kg_tup (K := K) (n := 2) rfl rfl (pgs_cons (pg_name (i := 6) nd rfl (Or.inl rfl)) (pgs_cons (pg_name (i := 7) nd rfl (Or.inl rfl)) pgs_nil)))) (fun _ _ _ _ _ => pts_nil) (fun _ _ _ _ _ => (pe_c c_minus hr (by decide) (by rfl) (pa_cons (pv 6) (pa_cons (pv 7) pa_nil)))))
        (pss_one (ps_ret (pe_tup (pa_cons (pv 4) (pa_cons (pe_c c_minus hr (by decide) (by rfl) (pa_cons (kx_ixT (K := K) rfl (pv 0) pe_int (fun _ _ => rfl)) (pa_cons (kx_ixT (K := K) rfl (pv 3) pe_int (fun _ _ => rfl)) pa_nil))) (pa_cons (pv 5) pa_nil)))))))))), fun as R hS => ?_⟩
  obtain ⟨n, m, f, b, g, p, f', b', g', rfl, hn, hm, hp, hf, hb, hg, hf', hb', hg', hR⟩ := hS
  have hfp : ∀ ρ : List Sl, ρ[0]? = some (.dat (eLn n m f b g)) → ρ[1]? = some (.dat (eN p)) → EvD K w (tOp (rIxL K) (tOp (rIxT K) (tVar 0) (tC (.int 0))) (tVar 1)) ρ (num (f p)) := fun ρ h1 h2 => ev_ixF (n := n) (f := fun k => num (f k)) (EvD.l (ev_t0 (ds := [num b, eFq m g]) (ev_var h1))) (ev_var h2) hp
  refine hs_seq (hs_if (eb_test (ev_eqQ (hfp _ rfl rfl) (Tx.evN T))) (fun h => ?_) (fun h => hs_next ?_))
  · have h0 : f p = 0 := of_decide_eq_true h
    refine hs_ret (ev_var rfl) ?_
    show R _
    simp only [h0, Rat.zero_mul] at hR
    have e1 : ∀ x : Rat, x - 0 = x := fun x => by grind
    simp only [e1] at hR
    exact hR
  · have m1 : ∀ {x : Rat}, Sm 1000 x → Sm 4000 x := fun h => h.mono (by decide)
    have m2 : ∀ {x : Rat}, Sm 1000 x → Sm 4000 (f p * x) := fun h => ((hf p hp).mul h).mono (by decide)
    refine hs_seq (hs_asg (d := eLn n m (fun k => f p * f' k) (f p * b') fun k => f p * g' k) (ev_call (as := [.dat (eLn n m f' b' g'), .dat (num (f p))]) (ea_dat (ev_var rfl) (ea_dat (hfp _ rfl rfl) ea_nil)) fun R' hR' => ⟨n, m, f', b', g', f p, rfl, hn, hm, fun k hk => m1 (hf' k hk), m1 hb', fun k hk => m1 (hg' k hk), m1 (hf p hp), hR'⟩) ?_)
    refine hs_seq (hs_asgN (en_mapF (n := n) (enc := fun k => .tuple [num (f k), num (f p * f' k)]) (fun k => num (f k - f p * f' k)) (ei_zipF (ev_t0 (ev_var rfl)) (ev_t0 (ev_var rfl))) (by omega) fun k hk => ⟨_, .pair 6 7 _ _, ev_two (op := (· - ·)) (ev_var rfl) (ev_var rfl) (m1 (hf k hk)) (m2 (hf' k hk))⟩) ?_)
    refine hs_seq (hs_asgN (en_mapF (n := m) (enc := fun k => .tuple [num (g k), num (f p * g' k)]) (fun k => num (g k - f p * g' k)) (ei_zipF (ev_t2 (ev_var rfl)) (ev_t2 (ev_var rfl))) (by omega) fun k hk => ⟨_, .pair 6 7 _ _, ev_two (op := (· - ·)) (ev_var rfl) (ev_var rfl) (m1 (hg k hk)) (m2 (hg' k hk))⟩) ?_)
    refine hs_freeze (i := 4) rfl (hs_freeze (i := 5) rfl (hs_ret (ev_tup (ds := [_, _, _]) (ea_dat (ev_var rfl) (ea_dat (ev_two (op := (· - ·)) (ev_t1 (ev_var rfl)) (ev_t1 (ev_var rfl)) (m1 hb) (m2 hb')) (ea_dat (ev_var rfl) ea_nil))) (by show 3 ≤ 100000; decide)) ?_))
    exact hR
/-! solution_of: level 1; slots 0 count, 1 solved, 2 numbers, 3 place, 4 line; calls [] -/
abbrev s_solution_of : Stmt := topS 20
theorem sc_solution_of : FnScope ["count", "solved", "numbers", "place", "line"] ["count", "solved"] (defScope s_solution_of) := ⟨rfl, rfl, rfl, by decide +kernel, rfl, by decide +kernel, by decide +kernel⟩
def S_solution_of : List Ar → (PyData → Prop) → Prop := fun as R => ∃ (n m : Nat) (f : Nat → Nat → Rat) (b : Nat → Rat) (g : Nat → Nat → Rat), as = [.dat (eN n), .dat (eF n fun i => .tuple [eN i, eLn n m (f i) (b i) (g i)])] ∧ n ≤ 100 ∧ R (eFq n b)
theorem ok_solution_of {f : Addr} {fd : FuncData} (T : Tx K mg aN aO) (F : Fun K "solution_of" "solution_of" s_solution_of f fd) : FnOk Pg w K mg base CX0 1 f fd ["count", "solved"] (spD K S_solution_of) := by
  refine fok F sc_solution_of (fun as R h => ?len) fun cdv A outer s H E hr => ?_
  case len => obtain ⟨_, _, _, _, _, rfl, _⟩ := h; rfl
  have nd := sc_solution_of.nd
  refine ⟨_, (pss_cons (ps_setLc (i := 2) (own := [("place", 3)]) (g := (gName 3)) (by rfl) nd rfl rfl (sw_true rfl rfl rfl (by decide +kernel)) (pi_range1 (by rfl) T.range (pa_cons (pv 0) pa_nil)) (blkOk_by (N := ["count", "solved", "numbers", "place", "line"]) (sc := defScope s_solution_of) (by decide +kernel)) (fun _ _ _ _ _ => (pg_name (i := 3) nd rfl (Or.inl rfl))) (fun _ _ _ _ _ => pts_nil) (fun _ _ _ _ _ => (pe_glob (v := .ref aN) rfl T.NOUGHT rfl)))
        (pss_cons (ps_for PassesOwn.never rfl (ki_list (K := K) rfl (pv 1)) (kg_tup (K := K) (n := 2) rfl rfl (pgs_cons (pg_name (i := 3) nd rfl (Or.inl rfl)) (pgs_cons (pg_name (i := 4) nd rfl (Or.inl rfl)) pgs_nil))) (pss_one (ps_asg (kx_ixT (K := K) rfl (pv 4) pe_int (fun _ _ => rfl)) (pg_sub (pv 2) (pv 3) set_list))))
        (pss_one (ps_ret (pv 2))))), fun as R hS => ?_⟩
  obtain ⟨n, m, f, b, g, rfl, hn, hR⟩ := hS
  refine hs_seq (hs_asgN (en_mapF (n := n) (enc := eN) (fun k => num 0) (ei_rangeN (ev_var rfl) (by omega)) (by omega) fun k hk => ⟨_, .name 3 _, Tx.evN T⟩) ?_)
  refine hs_seq (hs_forN n (fun i ρ => ∃ x3 x4, ρ = [.dat (eN n), .dat (eF n fun i => .tuple [eN i, eLn n m (f i) (b i) (g i)]), .lis ((List.range n).map fun k => num (if k < i then b k else 0)), x3, x4]) (ei_list (ev_var rfl)) ⟨.any, .any, ?_⟩ (fun i ρ hi hρ => ?_) (fun ρ hρ => ?_))
  · simp only [Nat.not_lt_zero, if_false]
    rfl
  · obtain ⟨x3, x4, rfl⟩ := hρ
    refine hg_pair (hs_setIn (i := 2) (k := i) rfl (ev_t1 (ev_var rfl)) (ev_var rfl) (by rw [List.length_map, List.length_range]; exact hi) ?_)
    refine ⟨.dat (eN i), .dat (eLn n m (f i) (b i) (g i)), ?_⟩
    have e : (((List.range n).map fun k => num (if k < i then b k else 0)).set i (num (b i))) = (List.range n).map fun k => num (if k < i + 1 then b k else 0) := by
      rw [set_range]
      refine List.map_congr_left fun k hk => ?_
      by_cases h : k = i
      · subst h
        rw [if_pos rfl, if_pos (Nat.lt_succ_self k)]
      · rw [if_neg h]
        by_cases h2 : k < i
        · rw [if_pos h2, if_pos (by omega)]
        · rw [if_neg h2, if_neg (by omega)]
    rw [← e]
    rfl
  · obtain ⟨x3, x4, rfl⟩ := hρ
    refine hs_retF (i := 2) rfl ?_
    have e : ((List.range n).map fun k => num (if k < n then b k else 0)) = (List.range n).map fun k => num (b k) := List.map_congr_left fun k hk => by rw [if_pos (List.mem_range.mp hk)]
    rw [e]
    exact hR
end
end G
end
section
set_option Elab.async false
set_option linter.all false
set_option maxRecDepth 100000
set_option maxHeartbeats 4000000
/-! walks: the elimination of a system -/
namespace G
open PySem PySem.Spec PyProof.Rows L2
local macro_rules | `(tactic| walk_at "ev") => `(tactic| repeat' (first
  | ((with_reducible refine' ev_var ?_); rfl) | ((with_reducible refine' EvD.l (ev_var ?_)); rfl) | ((with_reducible refine' el_bor ?_); rfl) | ((with_reducible refine' EvC.l (ec_var ?_)); rfl) | ((with_reducible refine' evv_var ?_); rfl) | with_reducible exact ev_int | with_reducible exact ev_str | with_reducible exact ev_bl | with_reducible exact ev_non
  | ((with_reducible refine' Tx.evN ?_); assumption) | ((with_reducible refine' Tx.evO ?_); assumption)
  | with_reducible exact ea_nil | with_reducible refine' ea_dat ?_ ?_ | with_reducible refine' ea_bor ?_ ?_ | with_reducible refine' ea_val ?_ ?_
  | with_reducible refine' ev_add ?_ ?_ | with_reducible refine' ev_sub ?_ ?_ | with_reducible refine' ev_mulW ?_ ?_ ?_ | with_reducible refine' ev_neg ?_ | with_reducible refine' ev_cmp ?_ ?_
  | with_reducible refine' ev_q0 ?_ | with_reducible refine' ev_q1 ?_
  | with_reducible refine' ev_k_draw ?_ | with_reducible refine' ev_k_ours ?_ | with_reducible refine' ev_k_theirs ?_ | with_reducible refine' ev_k_reward ?_ | with_reducible refine' ev_k_fin ?_ | with_reducible refine' ev_k_lose ?_
  | with_reducible refine' ev_n_draw ?_ | with_reducible refine' ev_n_ours ?_ | with_reducible refine' ev_n_theirs ?_ | with_reducible refine' ev_n_reward ?_ | with_reducible refine' ev_n_fin ?_ | with_reducible refine' ev_n_lose ?_
  | with_reducible refine' ev_side ?_ ?_ | with_reducible refine' ev_kind ?_
  | with_reducible refine' eb_test ?_ | with_reducible refine' eb_B ?_ | with_reducible refine' ev_int1 ?_ | with_reducible refine' eb_not ?_ | with_reducible refine' eb_or ?_ (fun _ => ?_) | with_reducible refine' eb_and ?_ (fun _ => ?_) | with_reducible refine' ev_t0 ?_ | with_reducible refine' ev_t1 ?_ | with_reducible refine' ev_t2 ?_))
local macro_rules | `(tactic| walk_at "ifT") => `(tactic| (refine' hs_seq (hs_ifT (b := _) ?h ?n ?e); (case h => walk_at "ev"); (case e => rfl)))
local macro_rules | `(tactic| walk_at "ifF") => `(tactic| (refine' hs_seq (hs_ifF (b := _) ?h (hs_next ?n) ?e); (case h => walk_at "ev"); (case e => rfl)))
/-- the i-th line of a system, by G -/
def lnG (n : Nat) (G : Nat → Nat → Rat) (i : Nat) : PyData := eLn n n (fun k => kd i k - G i k) (G i n) fun r => G i (n + 1 + r)
/-- what the elimination needs: pivots, sizes -/
structure ElOk (n : Nat) (G : Nat → Nat → Rat) : Prop where
  le : n ≤ 40
  piv : ∀ t, t < n → 1 - stage G t t t ≠ 0
  sz : ∀ t, t ≤ n → ∀ i, i < n → ∀ k, k < 2 * n + 1 → Sm 900 (stage G t i k)
theorem sm_kd {i k : Nat} {x : Rat} (h : Sm 900 x) : Sm 902 (kd i k - x) := by
  unfold kd
  split
  · exact (Sm.one.sub h).mono (by decide)
  · exact (Sm.zero.sub h).mono (by decide)
theorem cut_to (ds : List PyData) : cutD ds none (some 0) = [] := by
  unfold cutD
  rw [show HT.sIx ds.length ds.length (some 0) = 0 from by rw [show (0 : Int) = ((0 : Nat) : Int) from rfl, HT.sIx_nat, Nat.zero_min]]
  rw [Nat.zero_sub, List.take_zero]
theorem cut_from (ds : List PyData) : cutD ds (some 1) none = ds.drop 1 := by
  unfold cutD
  rw [show HT.sIx ds.length 0 (some 1) = min 1 ds.length from by rw [show (1 : Int) = ((1 : Nat) : Int) from rfl, HT.sIx_nat], HT.sIx_none]
  cases ds with
  | nil => rfl
  | cons x r =>
    rw [show min 1 (x :: r).length = 1 by rw [List.length_cons]; omega]
    exact List.take_length
theorem range_drop1 {α : Type} (n : Nat) (f : Nat → α) : ((List.range n).map f).drop 1 = (List.range (n - 1)).map fun j => f (1 + j) := by
  apply List.ext_getElem?
  intro j
  rw [List.getElem?_drop, List.getElem?_map, List.getElem?_map]
  by_cases h : 1 + j < n
  · rw [List.getElem?_range h, List.getElem?_range (by omega)]; rfl
  · rw [List.getElem?_eq_none (by rw [List.length_range]; omega), List.getElem?_eq_none (by rw [List.length_range]; omega)]; rfl
theorem range_cons {n : Nat} (h : 0 < n) : ∃ r, List.range n = 0 :: r := by
  cases n with
  | zero => omega
  | succ n => exact ⟨_, List.range_succ_eq_map⟩
section
variable {Pg : Program} {w : World} {K : PySem.W.Frag} {mg : Str → Option Value} {base : Heap} {aN aO : Addr}
/-! reduced: level 5; slots 0 count, 1 rows, 2 waiting, 3 place, 4 factors, 5 bound, 6 solved, 7 having, 8 line, 9 k, 10 other, 11 at; calls ['scaled 3', 'divided 2', 'without 4'] -/
abbrev s_reduced : Stmt := topS 19
theorem sc_reduced : FnScope ["count", "rows", "waiting", "place", "factors", "bound", "solved", "having", "line", "k", "other", "at"] ["count", "rows"] (defScope s_reduced) := ⟨rfl, rfl, rfl, by decide +kernel, rfl, by decide +kernel, by decide +kernel⟩
def S_reduced : List Ar → (PyData → Prop) → Prop := fun as R => ∃ (n : Nat) (G : Nat → Nat → Rat), as = [.dat (eN n), .dat (eF n fun i => .tuple [eFq n (fun k => kd i k - G i k), num (G i n)])] ∧ ElOk n G ∧ (∀ i, i < n → ∀ r, r < n → G i (n + 1 + r) = kd i r) ∧
  R (.tuple [eF n (fun i => .tuple [eN i, lnG n (stage G n) i]), .list []])
theorem lnG_p {n t : Nat} (S : Nat → Nat → Rat) (ht : t < n) (h0 : 1 - S t t ≠ 0) : eLn n n (fun k => 1 / (1 - S t t) * (kd t k - S t k)) (1 / (1 - S t t) * S t n) (fun r => 1 / (1 - S t t) * S t (n + 1 + r)) = lnG n (elim t S) t := by
  unfold lnG
  congr 1
  · funext k; exact step_p S k h0
  · exact (elim_row S (by omega) h0).symm
  · funext r; exact (elim_row S (by omega) h0).symm
theorem lnG_i {n t i : Nat} (S : Nat → Nat → Rat) (ht : t < n) (h0 : 1 - S t t ≠ 0) (hi : i ≠ t) : eLn n n (fun k => (kd i k - S i k) - (kd i t - S i t) * (kd t k - elim t S t k)) (S i n - (kd i t - S i t) * elim t S t n) (fun r => S i (n + 1 + r) - (kd i t - S i t) * elim t S t (n + 1 + r)) = lnG n (elim t S) i := by
  unfold lnG
  congr 1
  · funext k; exact step_i S k h0 hi
  · exact step_b S n h0 hi (by omega)
  · funext r; exact step_b S _ h0 hi (by omega)
theorem ok_reduced {f : Addr} {fd : FuncData} (T : Tx K mg aN aO) (F : Fun K "reduced" "reduced" s_reduced f fd) (c_scaled : Cal Pg w K mg base 3 "scaled" (spD K S_scaled)) (c_divided : Cal Pg w K mg base 2 "divided" (spD K S_div)) (c_without : Cal Pg w K mg base 4 "without" (spD K S_without)) : FnOk Pg w K mg base CX0 5 f fd ["count", "rows"] (spD K S_reduced) := by
  refine fok F sc_reduced (fun as R h => ?len) fun cdv A outer s H E hr => ?_
  case len => obtain ⟨_, _, rfl, _⟩ := h; rfl
  have nd := sc_reduced.nd
  refine ⟨_, (pss_cons (ps_set (i := 2) nd rfl (Or.inl rfl) (pe_lst pa_nil))
        (pss_cons (ps_for PassesOwn.never rfl (ki_enum (K := K) rfl (by rfl) T.enumerate (pa_cons (pv 1) pa_nil)) (kg_tup (K := K) (n := 2) rfl rfl (pgs_cons (pg_name (i := 3) nd rfl (Or.inr rfl)) (pgs_cons (kg_tup (K := K) (n := 2) rfl rfl (pgs_cons (pg_name (i := 4) nd rfl (Or.inl rfl)) (pgs_cons (pg_name (i := 5) nd rfl (Or.inl rfl)) pgs_nil))) pgs_nil))) (pss_one (ps_expr (kx_append (K := K) rfl (pv 2) (pa_cons (pe_tup (pa_cons (kx_list (K := K) rfl (by rfl) T.list (pa_cons (pv 4) pa_nil)) (pa_cons (pv 5) (pa_cons (pe_lc (own := [("k", 9)]) (g := (gName 9)) (by rfl) nd (pi_range1 (by rfl) T.range (pa_cons (kx_len (K := K) rfl (by rfl) T.len (pa_cons (pv 1) pa_nil)) pa_nil)) (blkOk_by (N := ["count", "rows", "waiting", "place", "factors", "bound", "solved", "having", "line", "k", "other", "at"]) (sc := defScope s_reduced) (by decide +kernel)) (fun _ _ _ _ _ => (pg_name (i := 9) nd rfl (Or.inl rfl))) (fun _ _ _ _ _ => pts_nil) (fun _ _ _ _ _ => (pe_ifExp (pt_cmpR op_eq (pv 9) (pv 3) (nomark _)) (pe_glob (v := .ref aO) rfl T.ONE rfl) (pe_glob (v := .ref aN) rfl T.NOUGHT rfl)))) pa_nil)))) pa_nil)))))
        (pss_cons (ps_set (i := 6) nd rfl (Or.inl rfl) (pe_lst pa_nil))
        (pss_cons (ps_for PassesOwn.never rfl (pi_range1 (by rfl) T.range (pa_cons (pv 0) pa_nil)) (pg_name (i := 3) nd rfl (Or.inr rfl)) (pss_cons (ps_setLc (i := 7) (own := [("k", 9), ("line", 8)]) (g := (gTup K 2 (gCons (gName 9) (gCons (gName 8) gNil)))) (by rfl) nd rfl rfl (sw_true rfl rfl rfl (by decide +kernel)) (ki_enum (K := K) rfl (by rfl) T.enumerate (pa_cons (pv 2) pa_nil)) (blkOk_by (N := ["count", "rows", "waiting", "place", "factors", "bound", "solved", "having", "line", "k", "other", "at"]) (sc := defScope s_reduced) (by decide +kernel)) (fun _ _ _ _ _ => (kg_tup (K := K) (n := 2) rfl rfl (pgs_cons (pg_name (i := 9) nd rfl (Or.inl rfl)) (pgs_cons (pg_name (i := 8) nd rfl (Or.inl rfl)) pgs_nil)))) (fun _ _ _ _ _ => (pts_one (kt_neD (K := K) rfl hr (kx_ixL (K := K) rfl (kx_ixT (K := K) rfl (pv 8) pe_int (fun _ _ => rfl)) (pv 3) (fun _ _ => rfl)) (pe_glob (v := .ref aN) rfl T.NOUGHT rfl)))) (fun _ _ _ _ _ => (pv 9)))
        (pss_one (ps_if (kt_truth (K := K) rfl (pv 7) (by intro _; rfl)) (pss_cons (ps_set (i := 8) nd rfl (Or.inr rfl) (kx_ixL (K := K) rfl (pv 2) (kx_ixL (K := K) rfl (pv 7) pe_int (fun _ _ => rfl)) (fun _ _ => rfl)))
        (pss_cons (ps_set (i := 8) nd rfl (Or.inr rfl) (pe_c c_scaled hr (by decide) (by rfl) (pa_cons (pv 8) (pa_cons (pe_c c_divided hr (by decide) (by rfl) (pa_cons (pe_glob (v := .ref aO) rfl T.ONE rfl) (pa_cons (kx_ixL (K := K) rfl (kx_ixT (K := K) rfl (pv 8) pe_int (fun _ _ => rfl)) (pv 3) (fun _ _ => rfl)) pa_nil))) pa_nil))))
        (pss_cons (ps_set (i := 2) nd rfl (Or.inl rfl) (pe_op op_cat (kx_slice (K := K) rfl (pv 2) po_none (po_some (kx_ixL (K := K) rfl (pv 7) pe_int (fun _ _ => rfl)))) (kx_slice (K := K) rfl (pv 2) (po_some (pe_op op_add (kx_ixL (K := K) rfl (pv 7) pe_int (fun _ _ => rfl)) pe_int)) po_none)))
        (pss_cons (ps_setLc (i := 2) (own := [("other", 10)]) (g := (gName 10)) (by rfl) nd rfl rfl (sw_true rfl rfl rfl (by decide +kernel)) (ki_list (K := K) rfl (pv 2)) (blkOk_by (N := ["count", "rows", "waiting", "place", "factors", "bound", "solved", "having", "line", "k", "other", "at"]) (sc := defScope s_reduced) (by decide +kernel)) (fun _ _ _ _ _ => (pg_name (i := 10) nd rfl (Or.inl rfl))) (fun _ _ _ _ _ => pts_nil) (fun _ _ _ _ _ => (pe_c c_without hr (by decide) (by rfl) (pa_cons (pv 10) (pa_cons (pv 3) (pa_cons (pv 8) pa_nil))))))
        (pss_one (ps_set (i := 6) nd rfl (Or.inl rfl) (pe_op op_cat (pe_lc (own := [("at", 11), ("other", 10)]) (g := (gTup K 2 (gCons (gName 11) (gCons (gName 10) gNil)))) (by rfl) nd (ki_list (K := K) rfl (pv 6)) (blkOk_by (N := ["count", "rows", "waiting", "place", "factors", "bound", "solved", "having", "line", "k", "other", "at"]) (sc := defScope s_reduced) (by decide +kernel)) (fun _ _ _ _ _ => (kg_tup (K := K) (n := 2) rfl rfl (pgs_cons (pg_name (i := 11) nd rfl (Or.inl rfl)) (pgs_cons (pg_name (i := 10) nd rfl (Or.inl rfl)) pgs_nil)))) (fun _ _ _ _ _ => pts_nil) (fun _ _ _ _ _ => (pe_tup (pa_cons (pv 11) (pa_cons (pe_c c_without hr (by decide) (by rfl) (pa_cons (pv 10) (pa_cons (pv 3) (pa_cons (pv 8) pa_nil)))) pa_nil))))) (pe_lst (pa_cons (pe_tup (pa_cons (pv 3) (pa_cons (pv 8) pa_nil))) pa_nil))))))))) pss_nil))))
        (pss_one (ps_ret (pe_tup (pa_cons (pv 6) (pa_cons (pv 2) pa_nil))))))))), fun as R hS => ?_⟩
  obtain ⟨n, G, rfl, hG, hmu, hR⟩ := hS
  have hn := hG.le
  refine hs_seq (hs_asgN (en_lst (ds := []) ea_nil (by show 0 ≤ 100000; decide)) ?_)
  refine hs_seq (hs_forN n (fun i ρ => ∃ x3 x4 x5, ρ = [.dat (eN n), .dat (eF n fun i => .tuple [eFq n (fun k => kd i k - G i k), num (G i n)]), .lis ((List.range i).map (lnG n G)), x3, x4, x5, .any, .any, .any, .any, .any, .any]) (ei_enumF (ev_var rfl)) ⟨.any, .any, .any, rfl⟩ (fun i ρ hi hρ => ?_) (fun ρ hρ => ?_))
  · obtain ⟨x3, x4, x5, rfl⟩ := hρ
    refine hg_tup rfl (hgs_name (hgs_pair (hgs_nil ?_)))
    refine hs_append (i := 2) (d := lnG n G i) rfl ?_ (by rw [List.length_map, List.length_range]; omega) ?_
    · refine (ev_tup (ds := [eFq n (fun k => kd i k - G i k), num (G i n), eFq n fun r => kd i r]) (ea_dat (en_list (EvD.l (ev_var rfl))).f (ea_dat (ev_var rfl) (ea_dat (EvN.f (en_mapF (n := n) (enc := eN) (fun r => num (kd i r)) (ei_rangeN (n := n) ((ev_len (EvD.l (ev_var rfl))).is (by rw [List.length_map, List.length_range])) (by omega)) (by omega) fun r hr' => ⟨_, .name 9 _, ?_⟩)) ea_nil))) (by show 3 ≤ 100000; decide)).is ?_
      · refine (ev_ite (eb_test (ev_eqInt (ev_var rfl) (ev_var rfl))) (Tx.evO T) (Tx.evN T)).is ?_
        by_cases h : i = r
        · rw [h, kd_self, if_pos (decide_eq_true rfl)]
        · rw [kd_ne h, if_neg (by rw [decide_eq_true_eq]; omega)]
      · unfold lnG eLn
        congr 3
        unfold eFq
        congr 2
        refine List.map_congr_left fun r hr' => ?_
        show num (kd i r) = num (G i (n + 1 + r))
        rw [hmu i hi r (List.mem_range.mp hr')]
    · refine ⟨.dat (eN i), .dat (eFq n fun k => kd i k - G i k), .dat (num (G i n)), ?_⟩
      rw [range_succ_map]
      rfl
  · obtain ⟨x3, x4, x5, rfl⟩ := hρ
    refine hs_seq (hs_asg (EvN.f (en_lst (ds := []) ea_nil (by show 0 ≤ 100000; decide))) ?_)
    refine hs_freeze (i := 2) rfl ?_
    refine hs_seq (hs_forN n (fun t ρ => ∃ x3 x4 x5 x7 x8, ρ = [.dat (eN n), .dat (eF n fun i => .tuple [eFq n (fun k => kd i k - G i k), num (G i n)]), .dat (eF (n - t) fun j => lnG n (stage G t) (t + j)), x3, x4, x5, .dat (eF t fun i => .tuple [eN i, lnG n (stage G t) i]), x7, x8, .any, .any, .any]) (ei_rangeN (ev_var rfl) (by omega)) ⟨x3, x4, x5, .any, .any, ?_⟩ (fun t ρ ht hρ => ?_) (fun ρ hρ => ?_))
    · have e : (fun j => lnG n (stage G 0) (0 + j)) = lnG n G := by funext j; rw [Nat.zero_add]; rfl
      rw [e]
      rfl
    · obtain ⟨x3, x4, x5, x7, x8, rfl⟩ := hρ
      have h0 := hG.piv t ht
      have sz := hG.sz t (by omega)
      have sz' := hG.sz (t + 1) (by omega)
      have fst : ∀ {i}, i < n → ∀ k, k < n → Sm 1000 (kd i k - stage G t i k) := fun hi k hk => (sm_kd (sz _ hi k (by omega))).mono (by decide)
      have fst' : ∀ {i}, i < n → ∀ k, k < n → Sm 1000 (kd i k - stage G (t + 1) i k) := fun hi k hk => (sm_kd (sz' _ hi k (by omega))).mono (by decide)
      refine hg_name ?_
      -- having
      have hdec : (0 : Nat) < n - t := by omega
      obtain ⟨r0, hr0⟩ := range_cons hdec
      let b : Nat → Bool := fun j => !decide (kd (t + j) t - stage G t (t + j) t = 0)
      have hb0 : b 0 = true := by
        show (!decide (kd (t + 0) t - stage G t (t + 0) t = 0)) = true
        rw [Nat.add_zero, kd_self, decide_eq_false h0]
        rfl
      have hhav : ((List.range (n - t)).filter b).map eN = eN 0 :: (r0.filter b).map eN := by
        rw [hr0, List.filter_cons, if_pos hb0]; rfl
      refine hs_seq (hs_asg (d := .list (eN 0 :: (r0.filter b).map eN)) ((EvN.f (en_lc (List.range (n - t)) b eN (enc := fun j => .tuple [eN j, lnG n (stage G t) (t + j)]) (ei_enumF (ev_var rfl)) (by rw [List.length_range]; omega) fun j hj => ⟨_, .pair 9 8 _ _, eb_test (ev_neQ (ev_ixF (n := n) (f := fun k => num (kd (t + j) k - stage G t (t + j) k)) (EvD.l (ev_t0 (ev_var rfl))) (ev_var rfl) ht) (Tx.evN T)), fun _ => ev_var rfl⟩)).is (by rw [hhav])) ?_)
      refine hs_if (b := true) (eb_list (EvD.l (ev_var (d := .list (eN 0 :: (r0.filter b).map eN)) rfl))) (fun _ => ?_) (fun z => nomatch z)
      -- line
      have hv0 : ∀ ρ : List Sl, ρ[7]? = some (.dat (.list (eN 0 :: (r0.filter b).map eN))) → EvD K w (tOp (rIxL K) (tVar 7) (tC (.int 0))) ρ (eN 0) := fun ρ h => ev_ixLn (k := 0) (EvD.l (ev_var h)) ev_int rfl
      refine hs_seq (hs_asg (d := lnG n (stage G t) t) (ev_ixF (n := n - t) (k := 0) (f := fun j => lnG n (stage G t) (t + j)) (EvD.l (ev_var rfl)) (hv0 _ rfl) hdec) ?_)
      refine hs_seq (hs_asg (d := lnG n (stage G (t + 1)) t) ((ev_call (as := [.dat (lnG n (stage G t) t), .dat (num (1 / (1 - stage G t t t)))]) (d := lnG n (stage G (t + 1)) t) (ea_dat (ev_var rfl) (ea_dat ((ev_divd (Tx.evO T) (ev_ixF (n := n) (f := fun k => num (kd t k - stage G t t k)) (EvD.l (ev_t0 (ev_var rfl))) (ev_var rfl) ht) (Sm.one.mono (by decide)) ((fst ht t ht).mono (by decide)) (by rw [kd_self]; exact h0)).is (by rw [kd_self])) ea_nil)) fun R' hR' =>
        ⟨n, n, fun k => kd t k - stage G t t k, stage G t t n, fun r => stage G t t (n + 1 + r), _, rfl, by omega, by omega, fun k hk => (fst ht k hk).mono (by decide), (sz t ht n (by omega)).mono (by decide), fun r hr' => (sz t ht _ (by omega)).mono (by decide), ?_, by rw [lnG_p (stage G t) ht h0]; exact hR'⟩)) ?_)
      · exact ((sm_kd (sz t ht t (by omega))).mono (by decide) : Sm 4000 (kd t t - stage G t t t)) |> fun h => by rw [kd_self] at h; exact h.inv (by decide)
      -- waiting, cut
      refine hs_seq (hs_asg (d := eF (n - (t + 1)) fun j => lnG n (stage G t) (t + (1 + j))) (EvN.f (en_cat (EvN.c ((en_slice (EvD.l (ev_var rfl)) eo_none (eo_some (hv0 _ rfl))).is (cut_to _))) (EvN.c ((en_slice (EvD.l (ev_var rfl)) (eo_some (ev_add (hv0 _ rfl) ev_int)) eo_none).is ((cut_from _).trans (range_drop1 _ _)))) (by rw [List.length_map, List.length_range, List.length_nil]; omega))) ?_)
      have hwo : ∀ {i : Nat} {ρ : List Sl} {ta tb tc : TE}, i < n → i ≠ t → EvD K w ta ρ (lnG n (stage G t) i) → EvD K w tb ρ (eN t) → EvD K w tc ρ (lnG n (stage G (t + 1)) t) → EvD K w (tCall (spD K S_without) [] E0 (tCons ta (tCons tb (tCons tc tNil)))) ρ (lnG n (stage G (t + 1)) i) := fun {i ρ ta tb tc} hi hit ha hb hc =>
        ev_call (ea_dat ha (ea_dat hb (ea_dat hc ea_nil))) fun R' hR' => ⟨n, n, fun k => kd i k - stage G t i k, stage G t i n, fun r => stage G t i (n + 1 + r), t, fun k => kd t k - stage G (t + 1) t k, stage G (t + 1) t n, fun r => stage G (t + 1) t (n + 1 + r), rfl, by omega, by omega, ht,
          fst hi, (sz i hi n (by omega)).mono (by decide), fun r hr' => (sz i hi _ (by omega)).mono (by decide), fst' ht, (sz' t ht n (by omega)).mono (by decide), fun r hr' => (sz' t ht _ (by omega)).mono (by decide), by
            have e := lnG_i (n := n) (stage G t) ht h0 hit
            show R' (eLn n n (fun k => (kd i k - stage G t i k) - (kd i t - stage G t i t) * (kd t k - elim t (stage G t) t k)) (stage G t i n - (kd i t - stage G t i t) * elim t (stage G t) t n) (fun r => stage G t i (n + 1 + r) - (kd i t - stage G t i t) * elim t (stage G t) t (n + 1 + r)))
            rw [e]; exact hR'⟩
      refine hs_seq (hs_asg (d := eF (n - (t + 1)) fun j => lnG n (stage G (t + 1)) (t + 1 + j)) (EvN.f (en_mapF (n := n - (t + 1)) (enc := fun j => lnG n (stage G t) (t + (1 + j))) (fun j => lnG n (stage G (t + 1)) (t + 1 + j)) (ei_listF (ev_var rfl)) (by omega) fun j hj => ⟨_, .name 10 _, ?_⟩)) ?_)
      · rw [show t + 1 + j = t + (1 + j) by omega]
        exact hwo (by omega) (by omega) (ev_var rfl) (ev_var rfl) (ev_var rfl)
      refine hs_asg (d := eF (t + 1) fun i => .tuple [eN i, lnG n (stage G (t + 1)) i]) ((EvN.f (en_cat (EvN.c (en_mapF (n := t) (enc := fun i => .tuple [eN i, lnG n (stage G t) i]) (fun i => .tuple [eN i, lnG n (stage G (t + 1)) i]) (ei_listF (ev_var rfl)) (by omega) fun i hi => ⟨_, .pair 11 10 _ _, ?_⟩)) (EvN.c (en_lst (ds := [.tuple [eN t, lnG n (stage G (t + 1)) t]]) (ea_dat (ev_tup (ds := [_, _]) (ea_dat (ev_var rfl) (ea_dat (ev_var rfl) ea_nil)) (by show 2 ≤ 100000; decide)) ea_nil) (by show 1 ≤ 100000; decide))) (by rw [List.length_map, List.length_range]; show t + 1 ≤ _; omega))).is ?_) ?_
      · exact ev_tup (ds := [_, _]) (ea_dat (ev_var rfl) (ea_dat (hwo (by omega) (by omega) (ev_var rfl) (ev_var rfl) (ev_var rfl)) ea_nil)) (by show 2 ≤ 100000; decide)
      · unfold eF
        rw [range_succ_map]
      · exact ⟨_, _, _, _, _, rfl⟩
    · obtain ⟨x3, x4, x5, x7, x8, rfl⟩ := hρ
      refine hs_ret (ev_tup (ds := [_, _]) (ea_dat (ev_var rfl) (ea_dat (ev_var rfl) ea_nil)) (by show 2 ≤ 100000; decide)) ?_
      have e : eF (n - n) (fun j => lnG n (stage G n) (n + j)) = .list [] := by rw [Nat.sub_self]; rfl
      show R _
      rw [← e] at hR
      exact hR
/-! only_solution: level 6; slots 0 count, 1 rows, 2 solved, 3 left, 4 line; calls ['reduced 5', 'solution_of 1'] -/
abbrev s_only_solution : Stmt := topS 21
theorem sc_only_solution : FnScope ["count", "rows", "solved", "left", "line"] ["count", "rows"] (defScope s_only_solution) := ⟨rfl, rfl, rfl, by decide +kernel, rfl, by decide +kernel, by decide +kernel⟩
def S_only : List Ar → (PyData → Prop) → Prop := fun as R => ∃ (n : Nat) (G : Nat → Nat → Rat), as = [.dat (eN n), .dat (eF n fun i => .tuple [eFq n (fun k => kd i k - G i k), num (G i n)])] ∧ ElOk n G ∧ (∀ i, i < n → ∀ r, r < n → G i (n + 1 + r) = kd i r) ∧
  R (eFq n fun i => stage G n i n)
theorem ok_only_solution {f : Addr} {fd : FuncData} (T : Tx K mg aN aO) (F : Fun K "only_solution" "only_solution" s_only_solution f fd) (c_reduced : Cal Pg w K mg base 5 "reduced" (spD K S_reduced)) (c_solution_of : Cal Pg w K mg base 1 "solution_of" (spD K S_solution_of)) : FnOk Pg w K mg base CX0 6 f fd ["count", "rows"] (spD K S_only) := by
  refine fok F sc_only_solution (fun as R h => ?len) fun cdv A outer s H E hr => ?_
  case len => obtain ⟨_, _, rfl, _⟩ := h; rfl
  have nd := sc_only_solution.nd
  refine ⟨_, (pss_cons (ps_asg (pe_c c_reduced hr (by decide) (by rfl) (pa_cons (pv 0) (pa_cons (pv 1) pa_nil))) (kg_tup (K := K) (n := 2) rfl rfl (pgs_cons (pg_name (i := 2) nd rfl (Or.inl rfl)) (pgs_cons (pg_name (i := 3) nd rfl (Or.inl rfl)) pgs_nil))))
        (pss_cons (ps_if (PW.pt (pw_or (pt_cmpR op_lt (kx_len (K := K) rfl (by rfl) T.len (pa_cons (pv 2) pa_nil)) (pv 0) (nomark _)) (pw_or1 (pt_val (kx_any (K := K) rfl rfl (by rfl) T.any (pa_cons (pe_lc (own := [("line", 4)]) (g := (gName 4)) (by rfl) nd (ki_list (K := K) rfl (pv 3)) (blkOk_by (N := ["count", "rows", "solved", "left", "line"]) (sc := defScope s_only_solution) (by decide +kernel)) (fun _ _ _ _ _ => (pg_name (i := 4) nd rfl (Or.inl rfl))) (fun _ _ _ _ _ => pts_nil) (fun _ _ _ _ _ => (kx_neD (K := K) rfl hr (kx_ixT (K := K) rfl (pv 4) pe_int (fun _ _ => rfl)) (pe_glob (v := .ref aN) rfl T.NOUGHT rfl)))) pa_nil)))))) (pss_one (ps_ret pe_non)) pss_nil)
        (pss_one (ps_ret (pe_c c_solution_of hr (by decide) (by rfl) (pa_cons (pv 0) (pa_cons (pv 2) pa_nil))))))), fun as R hS => ?_⟩
  obtain ⟨n, G, rfl, hG, hmu, hR⟩ := hS
  have hn := hG.le
  refine hs_seq (hs_asgG (d := .tuple [eF n (fun i => .tuple [eN i, lnG n (stage G n) i]), .list []]) (ev_call (as := [.dat (eN n), .dat _]) (by walk_at "ev") fun R' hR' => ⟨n, G, rfl, hG, hmu, hR'⟩) (hg_pair ?_))
  refine hs_seq (hs_if (b := false) (eb_or (a := false) (b := false) ?_ fun _ => ?_) (fun z => nomatch z) fun _ => hs_next ?_)
  · refine (eb_test (ev_cmp (ev_len (EvD.l (ev_var rfl))) (ev_var rfl))).is ?_
    rw [List.length_map, List.length_range]
    exact decide_eq_false (by omega)
  · refine (eb_B (ev_any (bs := []) (EvN.l (en_map (α := Nat) (enc := eN) [] (fun _ => .bool true) (ei_list (ev_var rfl)) (by show 0 ≤ 50000; decide) fun a ha => nomatch ha)))).is rfl
  · exact hs_ret (ev_call (as := [.dat (eN n), .dat _]) (by walk_at "ev") fun R' hR' => ⟨n, n, fun i k => kd i k - stage G n i k, fun i => stage G n i n, fun i r => stage G n i (n + 1 + r), rfl, by omega, hR'⟩) hR
end
end G
end
section
set_option Elab.async false
set_option linter.all false
set_option maxRecDepth 100000
set_option maxHeartbeats 4000000
/-! walks: chances of a chain -/
namespace G
open PySem PySem.Spec PyProof.Rows L2
local macro_rules | `(tactic| walk_at "ev") => `(tactic| repeat' (first
  | ((with_reducible refine' ev_var ?_); rfl) | ((with_reducible refine' EvD.l (ev_var ?_)); rfl) | ((with_reducible refine' el_bor ?_); rfl) | ((with_reducible refine' EvC.l (ec_var ?_)); rfl) | ((with_reducible refine' evv_var ?_); rfl) | with_reducible exact ev_int | with_reducible exact ev_str | with_reducible exact ev_bl | with_reducible exact ev_non
  | ((with_reducible refine' Tx.evN ?_); assumption) | ((with_reducible refine' Tx.evO ?_); assumption)
  | with_reducible exact ea_nil | with_reducible refine' ea_dat ?_ ?_ | with_reducible refine' ea_bor ?_ ?_ | with_reducible refine' ea_val ?_ ?_
  | with_reducible refine' ev_add ?_ ?_ | with_reducible refine' ev_sub ?_ ?_ | with_reducible refine' ev_mulW ?_ ?_ ?_ | with_reducible refine' ev_neg ?_ | with_reducible refine' ev_cmp ?_ ?_
  | with_reducible refine' ev_q0 ?_ | with_reducible refine' ev_q1 ?_
  | with_reducible refine' ev_k_draw ?_ | with_reducible refine' ev_k_ours ?_ | with_reducible refine' ev_k_theirs ?_ | with_reducible refine' ev_k_reward ?_ | with_reducible refine' ev_k_fin ?_ | with_reducible refine' ev_k_lose ?_
  | with_reducible refine' ev_n_draw ?_ | with_reducible refine' ev_n_ours ?_ | with_reducible refine' ev_n_theirs ?_ | with_reducible refine' ev_n_reward ?_ | with_reducible refine' ev_n_fin ?_ | with_reducible refine' ev_n_lose ?_
  | with_reducible refine' ev_side ?_ ?_ | with_reducible refine' ev_kind ?_
  | with_reducible refine' eb_test ?_ | with_reducible refine' eb_B ?_ | with_reducible refine' ev_int1 ?_ | with_reducible refine' eb_not ?_ | with_reducible refine' eb_or ?_ (fun _ => ?_) | with_reducible refine' eb_and ?_ (fun _ => ?_) | with_reducible refine' ev_t0 ?_ | with_reducible refine' ev_t1 ?_ | with_reducible refine' ev_t2 ?_))
local macro_rules | `(tactic| walk_at "ifT") => `(tactic| (refine' hs_seq (hs_ifT (b := _) ?h ?n ?e); (case h => walk_at "ev"); (case e => rfl)))
local macro_rules | `(tactic| walk_at "ifF") => `(tactic| (refine' hs_seq (hs_ifF (b := _) ?h (hs_next ?n) ?e); (case h => walk_at "ev"); (case e => rfl)))
/-- sizes on the way to the system -/
structure SzOk (c : Game) (m : Nat) (u : Nat → Nat) (kn : Nat → Rat) : Prop where
  p : ∀ i, i < m → ∀ j, ∀ k, k < m → Sm 400 (psum ((pat c (u i)).br.take j) (u k))
  o : ∀ i, i < m → ∀ j, Sm 400 (osum m u kn ((pat c (u i)).br.take j))
  ch : ∀ i, i < m → ∀ b ∈ (pat c (u i)).br, Sm 400 b.1
  k : ∀ i, i < c.length → Sm 400 (kn i)
  few : ∀ i, i < m → (pat c (u i)).br.length ≤ 6
section
variable {Pg : Program} {w : World} {K : PySem.W.Frag} {mg : Str → Option Value} {base : Heap} {aN aO : Addr}
/-! means: level 7; slots 0 chain, 1 unknown, 2 gains, 3 known, 4 rows, 5 place, 6 factors, 7 bound, 8 chance, 9 target, 10 at, 11 other; calls ['branches 1', 'minus 2', 'plus 2', 'times 2', 'only_solution 6'] -/
abbrev s_means : Stmt := topS 25
theorem sc_means : FnScope ["chain", "unknown", "gains", "known", "rows", "place", "factors", "bound", "chance", "target", "at", "other"] ["chain", "unknown", "gains", "known"] (defScope s_means) := ⟨rfl, rfl, rfl, by decide +kernel, rfl, by decide +kernel, by decide +kernel⟩
def S_means : List Ar → (PyData → Prop) → Prop := fun as R => ∃ (c : Game) (m : Nat) (u : Nat → Nat) (kn : Nat → Rat), as = [.dat (eG c), .dat (eF m fun k => eN (u k)), .dat (eFq c.length fun _ => 0), .bor ((List.range c.length).map fun k => num (kn k))] ∧ GW c ∧ m ≤ 40 ∧ (∀ i, i < m → u i < c.length) ∧ (∀ i j, i < m → j < m → u i = u j → i = j) ∧
  (∀ i, i < m → ∀ b ∈ (pat c (u i)).br, b.2 < c.length) ∧ SzOk c m u kn ∧ ElOk m (sysG c m u kn) ∧ R (eFq m fun i => stage (sysG c m u kn) m i m)
theorem unk_int (m : Nat) (u : Nat → Nat) : ((List.range m).map fun k => eN (u k)) = ((List.range m).map fun k => ((u k : Nat) : Int)).map PyData.int := by rw [List.map_map]; rfl
theorem unk_mem {m : Nat} {u : Nat → Nat} {t : Nat} : decide ((t : Int) ∈ (List.range m).map fun k => ((u k : Nat) : Int)) = inU m u t := by
  rw [Bool.eq_iff_iff, decide_eq_true_eq, inU_iff, List.mem_map]
  constructor
  · rintro ⟨k, h1, h2⟩; exact ⟨k, List.mem_range.mp h1, by omega⟩
  · rintro ⟨k, h1, h2⟩; exact ⟨k, List.mem_range.mpr h1, by omega⟩
theorem ok_means {f : Addr} {fd : FuncData} (T : Tx K mg aN aO) (F : Fun K "means" "means" s_means f fd) (c_branches : Cal Pg w K mg base 1 "branches" (spD K S_branches)) (c_minus : Cal Pg w K mg base 2 "minus" (spD K (S_two (· - ·)))) (c_plus : Cal Pg w K mg base 2 "plus" (spD K (S_two (· + ·)))) (c_times : Cal Pg w K mg base 2 "times" (spD K (S_two (· * ·)))) (c_only_solution : Cal Pg w K mg base 6 "only_solution" (spD K S_only)) : FnOk Pg w K mg base CX0 7 f fd ["chain", "unknown", "gains", "known"] (spD K S_means) := by
  refine fok F sc_means (fun as R h => ?len) fun cdv A outer s H E hr => ?_
  case len => obtain ⟨_, _, _, _, rfl, _⟩ := h; rfl
  have nd := sc_means.nd
  refine ⟨_, (pss_cons (ps_set (i := 4) nd rfl (Or.inl rfl) (pe_lst pa_nil))
        (pss_cons (ps_for PassesOwn.never rfl (ki_list (K := K) rfl (pv 1)) (pg_name (i := 5) nd rfl (Or.inr rfl)) (pss_cons (ps_setLc (i := 6) (own := [("other", 11)]) (g := (gName 11)) (by rfl) nd rfl rfl (sw_true rfl rfl rfl (by decide +kernel)) (ki_list (K := K) rfl (pv 1)) (blkOk_by (N := ["chain", "unknown", "gains", "known", "rows", "place", "factors", "bound", "chance", "target", "at", "other"]) (sc := defScope s_means) (by decide +kernel)) (fun _ _ _ _ _ => (pg_name (i := 11) nd rfl (Or.inl rfl))) (fun _ _ _ _ _ => pts_nil) (fun _ _ _ _ _ => (pe_ifExp (pt_cmpR op_eq (pv 11) (pv 5) (nomark _)) (pe_glob (v := .ref aO) rfl T.ONE rfl) (pe_glob (v := .ref aN) rfl T.NOUGHT rfl))))
        (pss_cons (ps_set (i := 7) nd rfl (Or.inl rfl) (kx_ixL (K := K) rfl (pv 2) (pv 5) (fun _ _ => rfl)))
        (pss_cons (ps_for PassesOwn.never rfl (ki_list (K := K) rfl (pe_c c_branches hr (by decide) (by rfl) (pa_cons (pv 0) (pa_cons (pv 5) pa_nil)))) (kg_tup (K := K) (n := 2) rfl rfl (pgs_cons (pg_name (i := 8) nd rfl (Or.inl rfl)) (pgs_cons (pg_name (i := 9) nd rfl (Or.inl rfl)) pgs_nil))) (pss_one (ps_if (kt_in (K := K) rfl (pv 9) (pv 1) rfl) (pss_cons (ps_set (i := 10) nd rfl (Or.inl rfl) (kx_index (K := K) rfl (pv 1) (pa_cons (pv 9) pa_nil)))
        (pss_one (ps_asg (pe_c c_minus hr (by decide) (by rfl) (pa_cons (kx_ixL (K := K) rfl (pv 6) (pv 10) (fun _ _ => rfl)) (pa_cons (pv 8) pa_nil))) (pg_sub (pv 6) (pv 10) set_list)))) (pss_one (ps_set (i := 7) nd rfl (Or.inl rfl) (pe_c c_plus hr (by decide) (by rfl) (pa_cons (pv 7) (pa_cons (pe_c c_times hr (by decide) (by rfl) (pa_cons (pv 8) (pa_cons (kx_ixL (K := K) rfl (pv 3) (pv 9) (fun _ _ => rfl)) pa_nil))) pa_nil))))))))
        (pss_one (ps_expr (kx_append (K := K) rfl (pv 4) (pa_cons (pe_tup (pa_cons (pv 6) (pa_cons (pv 7) pa_nil))) pa_nil))))))))
        (pss_one (ps_ret (pe_c c_only_solution hr (by decide) (by rfl) (pa_cons (kx_len (K := K) rfl (by rfl) T.len (pa_cons (pv 1) pa_nil)) (pa_cons (pv 4) pa_nil))))))), fun as R hS => ?_⟩
  obtain ⟨c, m, u, kn, rfl, hc, hm, hu, hinj, hlt, hsz, hel, hR⟩ := hS
  refine hs_seq (hs_asgN (en_lst (ds := []) ea_nil (by show 0 ≤ 100000; decide)) ?_)
  refine hs_seq (hs_forN m (fun i ρ => ∃ x5 x6 x7 x8 x9 x10, ρ = [.dat (eG c), .dat (eF m fun k => eN (u k)), .dat (eFq c.length fun _ => 0), .bor ((List.range c.length).map fun k => num (kn k)), .lis ((List.range i).map fun i => .tuple [eFq m (fun k => kd i k - sysG c m u kn i k), num (sysG c m u kn i m)]), x5, x6, x7, x8, x9, x10, .any]) (ei_listF (ev_var rfl)) ⟨.any, .any, .any, .any, .any, .any, rfl⟩ (fun i ρ hi hρ => ?_) (fun ρ hρ => ?_))
  · obtain ⟨x5, x6, x7, x8, x9, x10, rfl⟩ := hρ
    refine hg_name ?_
    have hui := hu i hi
    refine hs_seq (hs_asgN (en_mapF (n := m) (fun k => num (kd i k)) (ei_listF (ev_var rfl)) (by omega) fun k hk => ⟨_, .name 11 _, ?_⟩) ?_)
    · refine (ev_ite (eb_test (ev_eqInt (ev_var rfl) (ev_var rfl))) (Tx.evO T) (Tx.evN T)).is ?_
      by_cases h : i = k
      · rw [h, kd_self, if_pos (decide_eq_true rfl)]
      · rw [kd_ne h, if_neg (by rw [decide_eq_true_eq]; exact fun z => h (hinj i k hi hk (by omega)))]
    refine hs_seq (hs_asg (d := num 0) (ev_ixF (n := c.length) (f := fun _ => num 0) (EvD.l (ev_var rfl)) (ev_var rfl) hui) ?_)
    refine hs_seq (hs_forM (pat c (u i)).br (enc := eB) (fun j ρ => ∃ x8 x9 x10, ρ = [.dat (eG c), .dat (eF m fun k => eN (u k)), .dat (eFq c.length fun _ => 0), .bor ((List.range c.length).map fun k => num (kn k)), .lis ((List.range i).map fun i => .tuple [eFq m (fun k => kd i k - sysG c m u kn i k), num (sysG c m u kn i m)]), .dat (eN (u i)), .lis ((List.range m).map fun k => num (kd i k - psum ((pat c (u i)).br.take j) (u k))), .dat (num (osum m u kn ((pat c (u i)).br.take j))), x8, x9, x10, .any])
      (ei_listM (ev_call (as := [.dat (eG c), .dat (eN (u i))]) (by walk_at "ev") fun R' hR' => ⟨c, u i, rfl, hui, hR'⟩)) ⟨x8, x9, x10, ?_⟩ (fun j b ρ hb hρ => ?_) (fun ρ hρ => ?_))
    · have e : ((List.range m).map fun k => num (kd i k - psum ((pat c (u i)).br.take 0) (u k))) = (List.range m).map fun k => num (kd i k) := by
        refine List.map_congr_left fun k _ => ?_
        show num (kd i k - 0) = _
        congr 1; grind
      rw [e]
      rfl
    · obtain ⟨x8, x9, x10, rfl⟩ := hρ
      have hbm : b ∈ (pat c (u i)).br := List.mem_of_getElem? hb
      have htk : (pat c (u i)).br.take (j + 1) = (pat c (u i)).br.take j ++ [b] := by rw [List.take_add_one, hb]; rfl
      have hbl := hlt i hi b hbm
      refine hg_pair ?_
      refine hs_if (b := inU m u b.2) ((eb_test (ev_inI (i := (b.2 : Int)) (ns := (List.range m).map fun k => ((u k : Nat) : Int)) (ev_var rfl) (EvD.l (ev_var (d := .list _) (by rw [← unk_int]; rfl))))).is unk_mem) (fun h => ?_) (fun h => ?_)
      · obtain ⟨k0, hk0, hut⟩ := inU_iff.mp h
        refine hs_seq (hs_asg (d := eN k0) (ev_index (i := (b.2 : Int)) (ns := (List.range m).map fun k => ((u k : Nat) : Int)) (j := k0) (EvD.l (ev_var (d := .list _) (by rw [← unk_int]; rfl))) (ev_var rfl) (by rw [getF _ hk0, hut]) fun m' hm' z => ?_) ?_)
        · rw [getF _ (by omega)] at z
          have := hinj m' k0 (by omega) hk0 (by have := Option.some.inj z; omega)
          omega
        refine hs_setIn (i := 6) (k := k0) rfl (ev_two (op := (· - ·)) (a := kd i k0 - psum ((pat c (u i)).br.take j) (u k0)) (b := b.1) (ev_ixF (n := m) (f := fun k => num (kd i k - psum ((pat c (u i)).br.take j) (u k))) (EvC.l (ec_var rfl)) (ev_var rfl) hk0) (ev_var rfl) ((sm_kd ((hsz.p i hi j k0 hk0).mono (by decide))).mono (by decide)) ((hsz.ch i hi b hbm).mono (by decide))) (ev_var rfl) (by rw [List.length_map, List.length_range]; exact hk0) ?_
        refine ⟨.dat (num b.1), .dat (eN b.2), .dat (eN k0), ?_⟩
        have e1 : (((List.range m).map fun k => num (kd i k - psum ((pat c (u i)).br.take j) (u k))).set k0 (num (kd i k0 - psum ((pat c (u i)).br.take j) (u k0) - b.1))) = (List.range m).map fun k => num (kd i k - psum ((pat c (u i)).br.take (j + 1)) (u k)) := by
          rw [set_range]
          refine List.map_congr_left fun k hk => ?_
          rw [htk, psum_snoc]
          by_cases hkk : k = k0
          · subst hkk
            rw [if_pos rfl, if_pos hut.symm]
            congr 1; grind
          · rw [if_neg hkk, if_neg (fun z => hkk (hinj k k0 (List.mem_range.mp hk) hk0 (by omega)))]
            congr 1; grind
        have e2 : osum m u kn ((pat c (u i)).br.take (j + 1)) = osum m u kn ((pat c (u i)).br.take j) := by
          rw [htk, osum_snoc, if_pos h, Rat.add_zero]
        rw [e2, ← e1]
        rfl
      · refine hs_asg (d := num (osum m u kn ((pat c (u i)).br.take j) + b.1 * kn b.2)) (ev_two (op := (· + ·)) (ev_var rfl) (ev_two (op := (· * ·)) (ev_var rfl) (ev_ixF (n := c.length) (f := fun k => num (kn k)) (el_bor rfl) (ev_var rfl) hbl) ((hsz.ch i hi b hbm).mono (by decide)) ((hsz.k _ hbl).mono (by decide))) ((hsz.o i hi j).mono (by decide)) (((hsz.ch i hi b hbm).mul (hsz.k _ hbl)).mono (by decide))) ?_
        refine ⟨.dat (num b.1), .dat (eN b.2), x10, ?_⟩
        have hno : ∀ k, k < m → b.2 ≠ u k := fun k hk z => by
          have := inU_iff.mpr ⟨k, hk, z.symm⟩
          rw [h] at this; cases this
        have e1 : ((List.range m).map fun k => num (kd i k - psum ((pat c (u i)).br.take (j + 1)) (u k))) = (List.range m).map fun k => num (kd i k - psum ((pat c (u i)).br.take j) (u k)) := by
          refine List.map_congr_left fun k hk => ?_
          rw [htk, psum_snoc, if_neg (hno k (List.mem_range.mp hk)), Rat.add_zero]
        have e2 : osum m u kn ((pat c (u i)).br.take (j + 1)) = osum m u kn ((pat c (u i)).br.take j) + b.1 * kn b.2 := by
          rw [htk, osum_snoc, if_neg (by rw [h]; decide)]
        rw [e2, e1]
        rfl
    · obtain ⟨x8, x9, x10, rfl⟩ := hρ
      refine hs_freeze (i := 6) rfl ?_
      refine hs_append (i := 4) rfl (ev_tup (ds := [_, _]) (ea_dat (ev_var rfl) (ea_dat (ev_var rfl) ea_nil)) (by show 2 ≤ 100000; decide)) (by rw [List.length_map, List.length_range]; omega) ?_
      refine ⟨.dat (eN (u i)), .dat (.list ((List.range m).map fun k => num (kd i k - psum ((pat c (u i)).br.take (pat c (u i)).br.length) (u k)))), .dat (num (osum m u kn ((pat c (u i)).br.take (pat c (u i)).br.length))), x8, x9, x10, ?_⟩
      have e1 : ((List.range m).map fun k => num (kd i k - psum ((pat c (u i)).br.take (pat c (u i)).br.length) (u k))) = (List.range m).map fun k => num (kd i k - sysG c m u kn i k) := by
        refine List.map_congr_left fun k hk => ?_
        rw [List.take_length]
        unfold sysG
        rw [if_pos (List.mem_range.mp hk)]
      have e2 : osum m u kn ((pat c (u i)).br.take (pat c (u i)).br.length) = sysG c m u kn i m := by
        rw [List.take_length]
        unfold sysG
        rw [if_neg (Nat.lt_irrefl _), if_pos rfl]
      rw [range_succ_map, e1, e2]
      rfl
  · obtain ⟨x5, x6, x7, x8, x9, x10, rfl⟩ := hρ
    refine hs_freeze (i := 4) rfl ?_
    refine hs_ret (ev_call (as := [.dat (eN m), .dat (eF m fun i => .tuple [eFq m (fun k => kd i k - sysG c m u kn i k), num (sysG c m u kn i m)])]) (d := eFq m fun i => stage (sysG c m u kn) m i m) (ea_dat ((ev_len (EvD.l (ev_var rfl))).is (by rw [List.length_map, List.length_range]; rfl)) (ea_dat (ev_var rfl) ea_nil)) fun R' hR' => ⟨m, sysG c m u kn, rfl, hel, fun i hi r hr' => ?_, hR'⟩) hR
    unfold sysG
    rw [if_neg (by omega), if_neg (by omega)]
    congr 1
    omega
end
end G
end
section
set_option Elab.async false
set_option linter.all false
set_option maxRecDepth 100000
set_option maxHeartbeats 4000000
/-! walks: chances of a chain, further -/
namespace G
open PySem PySem.Spec PyProof.Rows L2
local macro_rules | `(tactic| walk_at "ev") => `(tactic| repeat' (first
  | ((with_reducible refine' ev_var ?_); rfl) | ((with_reducible refine' EvD.l (ev_var ?_)); rfl) | ((with_reducible refine' el_bor ?_); rfl) | ((with_reducible refine' EvC.l (ec_var ?_)); rfl) | ((with_reducible refine' evv_var ?_); rfl) | with_reducible exact ev_int | with_reducible exact ev_str | with_reducible exact ev_bl | with_reducible exact ev_non
  | ((with_reducible refine' Tx.evN ?_); assumption) | ((with_reducible refine' Tx.evO ?_); assumption)
  | with_reducible exact ea_nil | with_reducible refine' ea_dat ?_ ?_ | with_reducible refine' ea_bor ?_ ?_ | with_reducible refine' ea_val ?_ ?_
  | with_reducible refine' ev_add ?_ ?_ | with_reducible refine' ev_sub ?_ ?_ | with_reducible refine' ev_mulW ?_ ?_ ?_ | with_reducible refine' ev_neg ?_ | with_reducible refine' ev_cmp ?_ ?_
  | with_reducible refine' ev_q0 ?_ | with_reducible refine' ev_q1 ?_
  | with_reducible refine' ev_k_draw ?_ | with_reducible refine' ev_k_ours ?_ | with_reducible refine' ev_k_theirs ?_ | with_reducible refine' ev_k_reward ?_ | with_reducible refine' ev_k_fin ?_ | with_reducible refine' ev_k_lose ?_
  | with_reducible refine' ev_n_draw ?_ | with_reducible refine' ev_n_ours ?_ | with_reducible refine' ev_n_theirs ?_ | with_reducible refine' ev_n_reward ?_ | with_reducible refine' ev_n_fin ?_ | with_reducible refine' ev_n_lose ?_
  | with_reducible refine' ev_side ?_ ?_ | with_reducible refine' ev_kind ?_
  | with_reducible refine' eb_test ?_ | with_reducible refine' eb_B ?_ | with_reducible refine' ev_int1 ?_ | with_reducible refine' eb_not ?_ | with_reducible refine' eb_or ?_ (fun _ => ?_) | with_reducible refine' eb_and ?_ (fun _ => ?_) | with_reducible refine' ev_t0 ?_ | with_reducible refine' ev_t1 ?_ | with_reducible refine' ev_t2 ?_))
local macro_rules | `(tactic| walk_at "ifT") => `(tactic| (refine' hs_seq (hs_ifT (b := _) ?h ?n ?e); (case h => walk_at "ev"); (case e => rfl)))
local macro_rules | `(tactic| walk_at "ifF") => `(tactic| (refine' hs_seq (hs_ifF (b := _) ?h (hs_next ?n) ?e); (case h => walk_at "ev"); (case e => rfl)))
/-- what chances asks of a chain -/
structure ChOk (c : Game) : Prop where
  gw : GW c
  lt : ∀ i, i < c.length → ∀ b ∈ (pat c i).br, b.2 < c.length
  sz : SzOk c (unk c).length (uk c) (kn c)
  el : ElOk (unk c).length (sysG c (unk c).length (uk c) (kn c))
def fins (c : Game) : List Nat := (List.range c.length).filter fun i => (pat c i).isFin
theorem mem_fins {c : Game} {i : Nat} : i ∈ fins c ↔ i < c.length ∧ (pat c i).isFin = true := by
  unfold fins
  rw [List.mem_filter, List.mem_range]
section
variable {Pg : Program} {w : World} {K : PySem.W.Frag} {mg : Str → Option Value} {base : Heap} {aN aO : Addr}
/-! chances: level 8; slots 0 chain, 1 goals, 2 ways, 3 found, 4 near, 5 unknown, 6 numbers, 7 place, 8 number, 9 goal; calls ['all_reached 3', 'means 7'] -/
abbrev s_chances : Stmt := topS 26
theorem sc_chances : FnScope ["chain", "goals", "ways", "found", "near", "unknown", "numbers", "place", "number", "goal"] ["chain", "goals"] (defScope s_chances) := ⟨rfl, rfl, rfl, by decide +kernel, rfl, by decide +kernel, by decide +kernel⟩
def S_chances : List Ar → (PyData → Prop) → Prop := fun as R => ∃ c : Game, as = [.dat (eG c), .dat (eNs (fins c))] ∧ ChOk c ∧ ∀ f : Nat → Rat, CvOk c f → R (eFq c.length f)
theorem mem_dec {i : Nat} {l : List Nat} : decide ((i : Int) ∈ l.map fun n => ((n : Nat) : Int)) = decide (i ∈ l) := by
  rw [Bool.eq_iff_iff, decide_eq_true_eq, decide_eq_true_eq, mem_cast]
theorem ev_inN {ρ : List Sl} {ta tb : TE} {i : Nat} {l : List Nat} (ha : EvD K w ta ρ (eN i)) (hb : EvL K w tb ρ (l.map eN)) : EvD K w (tOp (rIn K false) ta tb) ρ (.bool (decide (i ∈ l))) := by
  rw [eNs_int] at hb
  exact (ev_inI ha hb).is (by rw [mem_dec])
theorem ev_niN {ρ : List Sl} {ta tb : TE} {i : Nat} {l : List Nat} (ha : EvD K w ta ρ (eN i)) (hb : EvL K w tb ρ (l.map eN)) : EvD K w (tOp (rIn K true) ta tb) ρ (.bool (!decide (i ∈ l))) := by
  rw [eNs_int] at hb
  exact (ev_niI ha hb).is (by rw [mem_dec])
theorem ok_chances {f : Addr} {fd : FuncData} (T : Tx K mg aN aO) (F : Fun K "chances" "chances" s_chances f fd) (c_all_reached : Cal Pg w K mg base 3 "all_reached" (spD K S_all_reached)) (c_means : Cal Pg w K mg base 7 "means" (spD K S_means)) : FnOk Pg w K mg base CX0 8 f fd ["chain", "goals"] (spD K S_chances) := by
  refine fok F sc_chances (fun as R h => ?len) fun cdv A outer s H E hr => ?_
  case len => obtain ⟨_, rfl, _⟩ := h; rfl
  have nd := sc_chances.nd
  refine ⟨_, (pss_cons (ps_set (i := 2) nd rfl (Or.inr rfl) (pe_c c_all_reached hr (by decide) (by rfl) (pa_cons (pv 0) pa_nil)))
        (pss_cons (ps_setLc (i := 3) (own := [("place", 7)]) (g := (gName 7)) (by rfl) nd rfl rfl (sw_true rfl rfl rfl (by decide +kernel)) (pi_range1 (by rfl) T.range (pa_cons (kx_len (K := K) rfl (by rfl) T.len (pa_cons (pv 0) pa_nil)) pa_nil)) (blkOk_by (N := ["chain", "goals", "ways", "found", "near", "unknown", "numbers", "place", "number", "goal"]) (sc := defScope s_chances) (by decide +kernel)) (fun _ _ _ _ _ => (pg_name (i := 7) nd rfl (Or.inl rfl))) (fun _ _ _ _ _ => pts_nil) (fun _ _ _ _ _ => (pe_ifExp (kt_in (K := K) rfl (pv 7) (pv 1) rfl) (pe_glob (v := .ref aO) rfl T.ONE rfl) (pe_glob (v := .ref aN) rfl T.NOUGHT rfl))))
        (pss_cons (ps_setLc (i := 4) (own := [("place", 7)]) (g := (gName 7)) (by rfl) nd rfl rfl (sw_true rfl rfl rfl (by decide +kernel)) (pi_range1 (by rfl) T.range (pa_cons (kx_len (K := K) rfl (by rfl) T.len (pa_cons (pv 0) pa_nil)) pa_nil)) (blkOk_by (N := ["chain", "goals", "ways", "found", "near", "unknown", "numbers", "place", "number", "goal"]) (sc := defScope s_chances) (by decide +kernel)) (fun _ _ _ _ _ => (pg_name (i := 7) nd rfl (Or.inr rfl))) (fun _ _ _ _ _ => (pts_one (pt_val (kx_any (K := K) rfl rfl (by rfl) T.any (pa_cons (pe_lc (own := [("goal", 9)]) (g := (gName 9)) (by rfl) nd (ki_list (K := K) rfl (pv 1)) (blkOk_by (N := ["chain", "goals", "ways", "found", "near", "unknown", "numbers", "place", "number", "goal"]) (sc := relS _ (defScope s_chances)) (by decide +kernel)) (fun _ _ _ _ _ => (pg_name (i := 9) nd rfl (Or.inl rfl))) (fun _ _ _ _ _ => pts_nil) (fun _ _ _ _ _ => (kx_in (K := K) rfl (pv 9) (kx_ixL (K := K) rfl (pv 2) (pv 7) (fun _ _ => rfl)) rfl))) pa_nil))))) (fun _ _ _ _ _ => (pv 7)))
        (pss_cons (ps_setLc (i := 5) (own := [("place", 7)]) (g := (gName 7)) (by rfl) nd rfl rfl (sw_true rfl rfl rfl (by decide +kernel)) (ki_list (K := K) rfl (pv 4)) (blkOk_by (N := ["chain", "goals", "ways", "found", "near", "unknown", "numbers", "place", "number", "goal"]) (sc := defScope s_chances) (by decide +kernel)) (fun _ _ _ _ _ => (pg_name (i := 7) nd rfl (Or.inl rfl))) (fun _ _ _ _ _ => (pts_one (kt_ni (K := K) rfl (pv 7) (pv 1) rfl))) (fun _ _ _ _ _ => (pv 7)))
        (pss_cons (ps_set (i := 6) nd rfl (Or.inl rfl) (pe_c c_means hr (by decide) (by rfl) (pa_cons (pv 0) (pa_cons (pv 5) (pa_cons (pe_lc (own := [("place", 7)]) (g := (gName 7)) (by rfl) nd (ki_list (K := K) rfl (pv 0)) (blkOk_by (N := ["chain", "goals", "ways", "found", "near", "unknown", "numbers", "place", "number", "goal"]) (sc := defScope s_chances) (by decide +kernel)) (fun _ _ _ _ _ => (pg_name (i := 7) nd rfl (Or.inl rfl))) (fun _ _ _ _ _ => pts_nil) (fun _ _ _ _ _ => (pe_glob (v := .ref aN) rfl T.NOUGHT rfl))) (pa_cons (pv 3) pa_nil))))))
        (pss_cons (ps_for PassesOwn.never rfl (ki_zip (K := K) rfl (by rfl) T.zip (pa_cons (pv 5) (pa_cons (pv 6) pa_nil))) (kg_tup (K := K) (n := 2) rfl rfl (pgs_cons (pg_name (i := 7) nd rfl (Or.inl rfl)) (pgs_cons (pg_name (i := 8) nd rfl (Or.inl rfl)) pgs_nil))) (pss_one (ps_asg (pv 8) (pg_sub (pv 3) (pv 7) set_list))))
        (pss_one (ps_ret (pv 3))))))))), fun as R hS => ?_⟩
  obtain ⟨c, rfl, hc, hR⟩ := hS
  have hgl := hc.gw.len
  have hfl : (fins c).length ≤ 40 := Nat.le_trans (List.length_filter_le _ _) (by rw [List.length_range]; exact hgl)
  have hul : (unk c).length ≤ 40 := Nat.le_trans (List.length_filter_le _ _) (by rw [List.length_range]; exact hgl)
  refine hs_seq (hs_asgR (R := fun d => ∃ ls : List (List Nat), d = .list (ls.map eNs) ∧ ls.length = c.length ∧ ∀ i l, ls[i]? = some l → ∀ x, x ∈ l ↔ Reach c i x) (evr_call (as := [.dat (eG c)]) (by walk_at "ev") fun R' hR' => ⟨c, rfl, hc.gw, fun ls h1 h2 => hR' _ ⟨ls, rfl, h1, h2⟩⟩) fun d hd => ?_)
  obtain ⟨ls, rfl, hls, hreach⟩ := hd
  have hlen : ∀ ρ : List Sl, ρ[0]? = some (.dat (eG c)) → EvD K w (tCB (fun xs H Q => ∃ p ys, xs = [V.ref p] ∧ (SqL K H p ys ∨ SqT K H p ys) ∧ Q (.int ys.length) H) (tCons (tVar 0) tNil)) ρ (.int ((c.length : Nat) : Int)) := fun ρ h => (ev_len (EvD.l (ev_var h))).is (by rw [List.length_map])
  refine hs_seq (hs_asgN (en_mapF (n := c.length) (enc := eN) (fun i => num (kn c i)) (ei_rangeN (hlen _ rfl) (by omega)) (by omega) fun i hi => ⟨_, .name 7 _, ?_⟩) ?_)
  · refine (ev_ite (eb_test (ev_inN (ev_var rfl) (EvD.l (ev_var rfl)))) (Tx.evO T) (Tx.evN T)).is ?_
    unfold kn
    by_cases h : (pat c i).isFin = true
    · rw [if_pos h, if_pos (decide_eq_true (mem_fins.mpr ⟨hi, h⟩))]
    · rw [if_neg h, if_neg (by rw [decide_eq_true_eq]; exact fun z => h (mem_fins.mp z).2)]
  -- near, unknown
  refine hs_seq (hs_asg (d := eNs ((List.range c.length).filter fun i => cd (Rf c i))) (EvN.f (en_lc (enc := eN) (List.range c.length) (fun i => cd (Rf c i)) eN (ei_rangeN (hlen _ rfl) (by omega)) (by rw [List.length_range]; omega) fun i hi => ⟨_, .name 7 (eN i), ?_, fun _ => ev_var rfl⟩)) ?_)
  · have hi' := List.mem_range.mp hi
    have hli : ls[i]? = some (ls.getD i []) := by
      rw [List.getD_eq_getElem?_getD, List.getElem?_eq_getElem (by rw [hls]; exact hi')]; rfl
    refine (eb_B (ev_any (bs := (fins c).map fun g => decide (g ∈ ls.getD i [])) ((EvN.l ((en_map (enc := eN) (fins c) (fun g => .bool (decide (g ∈ ls.getD i []))) (ei_list (ev_var rfl)) (by omega) fun g hg => ⟨_, .name 9 (eN g), ?_⟩).is (by rw [List.map_map]; rfl)))))).is ?_
    · exact ev_inN (ev_var rfl) (EvD.l (ev_ixM (enc := eNs) (xs := ls) (k := i) (EvD.l (ev_var rfl)) (ev_var rfl) hli))
    · rw [Bool.eq_iff_iff, List.any_map, List.any_eq_true, cd_iff, rf_reach]
      constructor
      · rintro ⟨g, h1, h2⟩
        exact ⟨g, (hreach i _ hli g).mp (of_decide_eq_true h2), (mem_fins.mp h1).2⟩
      · rintro ⟨x, h1, h2⟩
        have hx : x < c.length := by
          have key : ∀ {i x}, Reach c i x → i < c.length → x < c.length := fun {i x} h => by
            induction h with
            | refl p => exact fun z => z
            | step h3 _ ih => exact fun z => ih (hc.gw.lt _ z _ h3)
          exact key h1 hi'
        exact ⟨x, mem_fins.mpr ⟨hx, h2⟩, decide_eq_true ((hreach i _ hli x).mpr h1)⟩
  refine hs_seq (hs_asg (d := eF (unk c).length fun k => eN (uk c k)) ((EvN.f (en_lc (enc := eN) ((List.range c.length).filter fun i => cd (Rf c i)) (fun i => !decide (i ∈ fins c)) eN (ei_list (ev_var rfl)) (Nat.le_trans (List.length_filter_le _ _) (by rw [List.length_range]; omega)) fun i hi => ⟨_, .name 7 (eN i), eb_test (ev_niN (ev_var rfl) (EvD.l (ev_var rfl))), fun _ => ev_var rfl⟩)).is ?_) ?_)
  · have e : ((List.range c.length).filter fun i => cd (Rf c i)).filter (fun i => !decide (i ∈ fins c)) = unk c := by
      rw [List.filter_filter]
      unfold unk
      refine List.filter_congr fun i hi => ?_
      rw [Bool.eq_iff_iff, Bool.and_eq_true, cd_iff, cd_iff, Bool.not_eq_true', decide_eq_false_iff_not, mem_fins]
      have hi' := List.mem_range.mp hi
      constructor
      · rintro ⟨h1, h2⟩
        refine ⟨h2, ?_⟩
        cases h : (pat c i).isFin with
        | false => rfl
        | true => exact absurd ⟨hi', h⟩ h1
      · rintro ⟨h1, h2⟩
        exact ⟨fun z => Bool.noConfusion (h2.symm.trans z.2), h1⟩
    rw [e]
    show PyData.list _ = PyData.list _
    conv => lhs; rw [unk_eq c]
    rw [List.map_map]
    rfl
  refine hs_seq (hs_asg (d := eFq (unk c).length (sol c)) (ev_call (as := [.dat (eG c), .dat (eF (unk c).length fun k => eN (uk c k)), .dat (eFq c.length fun _ => 0), .bor ((List.range c.length).map fun k => num (kn c k))]) (ea_dat (ev_var rfl) (ea_dat (ev_var rfl) (ea_dat ?_ (ea_bor (EvC.l (ec_var rfl)) ea_nil)))) fun R' hR' => ⟨c, _, uk c, kn c, rfl, hc.gw, hul, fun i hi => (mem_unk.mp (uk_mem hi)).1, fun i j hi hj e => uk_inj hi hj e, fun i hi => hc.lt _ (mem_unk.mp (uk_mem hi)).1, hc.sz, hc.el, hR'⟩) ?_)
  · refine (EvN.f (en_map (enc := ePl) c (fun _ => num 0) (ei_list (ev_var rfl)) (by omega) fun p hp => ⟨_, .name 7 (ePl p), Tx.evN T⟩)).is ?_
    show PyData.list _ = PyData.list _
    congr 1
    apply List.ext_getElem?
    intro j
    rw [List.getElem?_map, List.getElem?_map]
    by_cases h : j < c.length
    · rw [List.getElem?_range h, List.getElem?_eq_getElem h]; rfl
    · rw [List.getElem?_eq_none (by omega), List.getElem?_eq_none (by rw [List.length_range]; omega)]; rfl
  refine hs_seq (hs_forN (unk c).length (fun t ρ => ∃ (f : Nat → Rat) (x7 x8 : Sl), ρ = [.dat (eG c), .dat (eNs (fins c)), .dat (.list (ls.map eNs)), .lis ((List.range c.length).map fun i => num (f i)), .dat (eNs ((List.range c.length).filter fun i => cd (Rf c i))), .dat (eF (unk c).length fun k => eN (uk c k)), .dat (eFq (unk c).length (sol c)), x7, x8, .any] ∧
      (∀ i, i < c.length → (pat c i).isFin = true → f i = 1) ∧ (∀ k, k < t → f (uk c k) = sol c k) ∧ (∀ i, i < c.length → (pat c i).isFin = false → (∀ k, k < t → uk c k ≠ i) → f i = 0)) (ei_zipF (ev_var rfl) (ev_var rfl)) ⟨kn c, .any, .any, rfl, fun i _ h => if_pos h, fun k h => absurd h (by omega), fun i _ h _ => if_neg (by rw [h]; decide)⟩ (fun t ρ ht hρ => ?_) (fun ρ hρ => ?_))
  · obtain ⟨f, x7, x8, rfl, h1, h2, h3⟩ := hρ
    have hut := mem_unk.mp (uk_mem ht)
    refine hg_pair (hs_setIn (i := 3) (k := uk c t) rfl (ev_var rfl) (ev_var rfl) (by rw [List.length_map, List.length_range]; exact hut.1) ?_)
    refine ⟨fun i => if i = uk c t then sol c t else f i, .dat (eN (uk c t)), .dat (num (sol c t)), ?_, fun i hi h => ?_, fun k hk => ?_, fun i hi h hn => ?_⟩
    · have e : (((List.range c.length).map fun i => num (f i)).set (uk c t) (num (sol c t))) = (List.range c.length).map fun i => num (if i = uk c t then sol c t else f i) := by
        rw [set_range]
        refine List.map_congr_left fun k _ => ?_
        split <;> rfl
      rw [← e]
      rfl
    · show (if i = uk c t then sol c t else f i) = 1
      rw [if_neg (fun z => by subst z; rw [hut.2.2] at h; cases h)]
      exact h1 i hi h
    · show (if uk c k = uk c t then sol c t else f (uk c k)) = sol c k
      by_cases hkt : k = t
      · subst hkt; rw [if_pos rfl]
      · rw [if_neg (fun z => hkt (uk_inj (by omega) ht z))]
        exact h2 k (by omega)
    · show (if i = uk c t then sol c t else f i) = 0
      rw [if_neg (fun z => hn t (Nat.lt_succ_self t) z.symm)]
      exact h3 i hi h fun k hk => hn k (by omega)
  · obtain ⟨f, x7, x8, rfl, h1, h2, h3⟩ := hρ
    exact hs_retF (i := 3) rfl (hR f ⟨h1, h2, h3⟩)
end
end G
end
section
set_option Elab.async false
set_option linter.all false
set_option maxRecDepth 100000
set_option maxHeartbeats 4000000
/-! walks: ranks -/
namespace G
open PySem PySem.Spec PyProof.Rows L2
local macro_rules | `(tactic| walk_at "ev") => `(tactic| repeat' (first
  | ((with_reducible refine' ev_var ?_); rfl) | ((with_reducible refine' EvD.l (ev_var ?_)); rfl) | ((with_reducible refine' el_bor ?_); rfl) | ((with_reducible refine' EvC.l (ec_var ?_)); rfl) | ((with_reducible refine' evv_var ?_); rfl) | with_reducible exact ev_int | with_reducible exact ev_str | with_reducible exact ev_bl | with_reducible exact ev_non
  | ((with_reducible refine' Tx.evN ?_); assumption) | ((with_reducible refine' Tx.evO ?_); assumption)
  | with_reducible exact ea_nil | with_reducible refine' ea_dat ?_ ?_ | with_reducible refine' ea_bor ?_ ?_ | with_reducible refine' ea_val ?_ ?_
  | with_reducible refine' ev_add ?_ ?_ | with_reducible refine' ev_sub ?_ ?_ | with_reducible refine' ev_mulW ?_ ?_ ?_ | with_reducible refine' ev_neg ?_ | with_reducible refine' ev_cmp ?_ ?_
  | with_reducible refine' ev_q0 ?_ | with_reducible refine' ev_q1 ?_
  | with_reducible refine' ev_k_draw ?_ | with_reducible refine' ev_k_ours ?_ | with_reducible refine' ev_k_theirs ?_ | with_reducible refine' ev_k_reward ?_ | with_reducible refine' ev_k_fin ?_ | with_reducible refine' ev_k_lose ?_
  | with_reducible refine' ev_n_draw ?_ | with_reducible refine' ev_n_ours ?_ | with_reducible refine' ev_n_theirs ?_ | with_reducible refine' ev_n_reward ?_ | with_reducible refine' ev_n_fin ?_ | with_reducible refine' ev_n_lose ?_
  | with_reducible refine' ev_side ?_ ?_ | with_reducible refine' ev_kind ?_
  | with_reducible refine' eb_test ?_ | with_reducible refine' eb_B ?_ | with_reducible refine' ev_int1 ?_ | with_reducible refine' eb_not ?_ | with_reducible refine' eb_or ?_ (fun _ => ?_) | with_reducible refine' eb_and ?_ (fun _ => ?_) | with_reducible refine' ev_t0 ?_ | with_reducible refine' ev_t1 ?_ | with_reducible refine' ev_t2 ?_))
local macro_rules | `(tactic| walk_at "ifT") => `(tactic| (refine' hs_seq (hs_ifT (b := _) ?h ?n ?e); (case h => walk_at "ev"); (case e => rfl)))
local macro_rules | `(tactic| walk_at "ifF") => `(tactic| (refine' hs_seq (hs_ifF (b := _) ?h (hs_next ?n) ?e); (case h => walk_at "ev"); (case e => rfl)))
theorem is_fin_eq {p : Pl} : p.is_fin = p.isFin := by cases p <;> rfl
theorem is_lose_eq {p : Pl} : p.is_lose = p.isLose := by cases p <;> rfl
def eRk (o : Option Nat) : PyData := eO o
section
variable {Pg : Program} {w : World} {K : PySem.W.Frag} {mg : Str → Option Value} {base : Heap} {aN aO : Addr}
theorem ev_notO {ρ : List Sl} {ta : TE} {o : Option Nat} (ha : EvD K w ta ρ (eO o)) : EvD K w (tOp (fun x y H Q => y = V.non ∧ Q (.bl (!decide (x = .non))) H) ta (tC .non)) ρ (.bool o.isSome) := (ev_notN ha).is (by cases o <;> rfl)
theorem ev_isO {ρ : List Sl} {ta : TE} {o : Option Nat} (ha : EvD K w ta ρ (eO o)) : EvD K w (tOp (fun x y H Q => y = V.non ∧ Q (.bl (decide (x = .non))) H) ta (tC .non)) ρ (.bool o.isNone) := (ev_isN ha).is (by cases o <;> rfl)
/-! ranked: level 2; slots 0 game, 1 place, 2 ranks, 3 target; calls ['targets 1'] -/
abbrev s_ranked : Stmt := topS 29
theorem sc_ranked : FnScope ["game", "place", "ranks", "target"] ["game", "place", "ranks"] (defScope s_ranked) := ⟨rfl, rfl, rfl, by decide +kernel, rfl, by decide +kernel, by decide +kernel⟩
def S_ranked : List Ar → (PyData → Prop) → Prop := fun as R => ∃ (g : Game) (i : Nat) (rk : Nat → Option Nat), as = [.dat (eG g), .dat (eN i), .bor ((List.range g.length).map fun k => eO (rk k))] ∧ GW g ∧ i < g.length ∧ R (.list ((pat g i).tgs.map fun t => .bool (rk t).isSome))
theorem ok_ranked {f : Addr} {fd : FuncData} (T : Tx K mg aN aO) (F : Fun K "ranked" "ranked" s_ranked f fd) (c_targets : Cal Pg w K mg base 1 "targets" (spD K S_targets)) : FnOk Pg w K mg base CX0 2 f fd ["game", "place", "ranks"] (spD K S_ranked) := by
  refine fok F sc_ranked (fun as R h => ?len) fun cdv A outer s H E hr => ?_
  case len => obtain ⟨_, _, _, rfl, _⟩ := h; rfl
  have nd := sc_ranked.nd
  refine ⟨_, (pss_one (ps_ret (pe_lc (own := [("target", 3)]) (g := (gName 3)) (by rfl) nd (ki_list (K := K) rfl (pe_c c_targets hr (by decide) (by rfl) (pa_cons (pv 0) (pa_cons (pv 1) pa_nil)))) (blkOk_by (N := ["game", "place", "ranks", "target"]) (sc := defScope s_ranked) (by decide +kernel)) (fun _ _ _ _ _ => (pg_name (i := 3) nd rfl (Or.inl rfl))) (fun _ _ _ _ _ => pts_nil) (fun _ _ _ _ _ => (pe_cmpR op_notN (kx_ixL (K := K) rfl (pv 2) (pv 3) (fun _ _ => rfl)) pe_non (nomark _)))))), fun as R hS => ?_⟩
  obtain ⟨g, i, rk, rfl, hg, hi, hR⟩ := hS
  refine hs_ret (EvN.f (en_map (enc := eN) (pat g i).tgs (fun t => .bool (rk t).isSome) (ei_list (ev_call (as := [.dat (eG g), .dat (eN i)]) (d := eNs (pat g i).tgs) (by walk_at "ev") fun R' hR' => ⟨g, i, rfl, hi, hg.few i hi, hR'⟩)) (by have := hg.few i hi; omega) fun t ht => ⟨_, .name 3 (eN t), ?_⟩)) hR
  exact ev_notO (ev_ixF (n := g.length) (f := fun k => eO (rk k)) (el_bor rfl) (ev_var rfl) (hg.lt i hi t ht))
theorem ev_ranked {E : XK} {ρ : List Sl} {ta tb tc : TE} {g : Game} {i : Nat} {rk : Nat → Option Nat} (hg : GW g) (hi : i < g.length) (ha : EvD K w ta ρ (eG g)) (hb : EvD K w tb ρ (eN i)) (hc : EvL K w tc ρ ((List.range g.length).map fun k => eO (rk k))) :
    EvL K w (tCall (spD K S_ranked) [] E (tCons ta (tCons tb (tCons tc tNil)))) ρ (((pat g i).tgs.map fun t => (rk t).isSome).map .bool) :=
  EvD.l ((ev_call (ea_dat ha (ea_dat hb (ea_bor hc ea_nil))) fun R hR => ⟨g, i, rk, rfl, hg, hi, hR⟩ : EvD K w _ ρ (.list ((pat g i).tgs.map fun t => .bool (rk t).isSome))).is (by rw [List.map_map]; rfl))
theorem any_tgs {l : List Nat} {f : Nat → Bool} : (l.map f).any id = l.any f := by rw [List.any_map]; rfl
theorem all_tgs {l : List Nat} {f : Nat → Bool} : (l.map f).all id = l.all f := by rw [List.all_map]; rfl
/-! sure_rule: level 3; slots 0 game, 1 place, 2 ranks, 3 inside, 4 kind; calls ['ranked 2'] -/
abbrev s_sure_rule : Stmt := topS 30
theorem sc_sure_rule : FnScope ["game", "place", "ranks", "inside", "kind"] ["game", "place", "ranks", "inside"] (defScope s_sure_rule) := ⟨rfl, rfl, rfl, by decide +kernel, rfl, by decide +kernel, by decide +kernel⟩
/-- .. but for draws: any of their targets -/
def suB (p : Pl) (rk : Nat → Bool) : Bool := if p.is_ours = true then p.tgs.any rk else !p.is_lose && p.tgs.all rk
def S_sure_rule : List Ar → (PyData → Prop) → Prop := fun as R => ∃ (g : Game) (i : Nat) (rk : Nat → Option Nat) (ins : List PyData), as = [.dat (eG g), .dat (eN i), .bor ((List.range g.length).map fun k => eO (rk k)), .dat (.list ins)] ∧ GW g ∧ i < g.length ∧ R (.bool (suB (pat g i) fun t => (rk t).isSome))
theorem ok_sure_rule {f : Addr} {fd : FuncData} (T : Tx K mg aN aO) (F : Fun K "sure_rule" "sure_rule" s_sure_rule f fd) (c_ranked : Cal Pg w K mg base 2 "ranked" (spD K S_ranked)) : FnOk Pg w K mg base CX0 3 f fd ["game", "place", "ranks", "inside"] (spD K S_sure_rule) := by
  refine fok F sc_sure_rule (fun as R h => ?len) fun cdv A outer s H E hr => ?_
  case len => obtain ⟨_, _, _, _, rfl, _⟩ := h; rfl
  have nd := sc_sure_rule.nd
  refine ⟨_, (pss_cons (ps_set (i := 4) nd rfl (Or.inl rfl) (kx_ixT (K := K) rfl (kx_ixL (K := K) rfl (pv 0) (pv 1) (fun _ _ => rfl)) pe_int (fun _ _ => rfl)))
        (pss_cons (ps_if (pt_cmpR op_eq (pv 4) pe_str (nomark _)) (pss_one (ps_ret (kx_any (K := K) rfl rfl (by rfl) T.any (pa_cons (pe_c c_ranked hr (by decide) (by rfl) (pa_cons (pv 0) (pa_cons (pv 1) (pa_cons (pv 2) pa_nil)))) pa_nil)))) pss_nil)
        (pss_one (ps_ret (pe_and (pe_cmpR op_ne (pv 4) pe_str (nomark _)) (pe_one (kx_all (K := K) rfl rfl (by rfl) T.all (pa_cons (pe_c c_ranked hr (by decide) (by rfl) (pa_cons (pv 0) (pa_cons (pv 1) (pa_cons (pv 2) pa_nil)))) pa_nil)))))))), fun as R hS => ?_⟩
  obtain ⟨g, i, rk, ins, rfl, hg, hi, hR⟩ := hS
  refine hs_seq (hs_asg (ev_kind (ev_ixG (ev_var rfl) (ev_var rfl) hi)) ?_)
  have hk : ∀ (s : Str) (ρ : List Sl), ρ[4]? = some (.dat (.str (kindS (pat g i)))) → EvD K w (tOp rEq (tVar 4) (tC (.str s))) ρ (.bool (decide (kindS (pat g i) = s))) := fun s ρ h => ev_eqStr (ev_var h) ev_str
  refine hs_seq (hs_if ((eb_test (hk _ _ rfl)).is kd_ours) (fun h => ?_) (fun h => hs_next ?_))
  · refine hs_ret (ev_any (ev_ranked hg hi (ev_var rfl) (ev_var rfl) (el_bor rfl))) ?_
    show R _
    unfold suB at hR
    rw [if_pos h] at hR
    rw [any_tgs]
    exact hR
  · refine hs_ret (ev_andV (a := !(pat g i).is_lose) ((ev_neStr (ev_var rfl) ev_str).is (by rw [kd_lose])) fun _ => ev_all (ev_ranked hg hi (ev_var rfl) (ev_var rfl) (el_bor rfl))) ?_
    show R _
    unfold suB at hR
    rw [if_neg (by rw [h]; decide)] at hR
    rw [all_tgs]
    exact hR
/-! chance_rule: level 4; slots 0 game, 1 place, 2 ranks, 3 inside; calls ['ranked 2', 'sure_rule 3'] -/
abbrev s_chance_rule : Stmt := topS 31
theorem sc_chance_rule : FnScope ["game", "place", "ranks", "inside"] ["game", "place", "ranks", "inside"] (defScope s_chance_rule) := ⟨rfl, rfl, rfl, by decide +kernel, rfl, by decide +kernel, by decide +kernel⟩
def S_chance_rule : List Ar → (PyData → Prop) → Prop := fun as R => ∃ (g : Game) (i : Nat) (rk : Nat → Option Nat) (ins : List PyData), as = [.dat (eG g), .dat (eN i), .bor ((List.range g.length).map fun k => eO (rk k)), .dat (.list ins)] ∧ GW g ∧ i < g.length ∧ R (.bool (chB (pat g i) fun t => (rk t).isSome))
theorem chB_draw {p : Pl} {rk : Nat → Bool} (h : p.is_draw = true) : chB p rk = p.tgs.any rk := by
  cases p <;> first | rfl | cases h
theorem chB_su {p : Pl} {rk : Nat → Bool} (h : p.is_draw = false) : chB p rk = suB p rk := by
  cases p with
  | draw bs => exact Bool.noConfusion (show true = false from h)
  | _ => rfl
theorem ok_chance_rule {f : Addr} {fd : FuncData} (T : Tx K mg aN aO) (F : Fun K "chance_rule" "chance_rule" s_chance_rule f fd) (c_ranked : Cal Pg w K mg base 2 "ranked" (spD K S_ranked)) (c_sure_rule : Cal Pg w K mg base 3 "sure_rule" (spD K S_sure_rule)) : FnOk Pg w K mg base CX0 4 f fd ["game", "place", "ranks", "inside"] (spD K S_chance_rule) := by
  refine fok F sc_chance_rule (fun as R h => ?len) fun cdv A outer s H E hr => ?_
  case len => obtain ⟨_, _, _, _, rfl, _⟩ := h; rfl
  have nd := sc_chance_rule.nd
  refine ⟨_, (pss_cons (ps_if (pt_cmpR op_eq (kx_ixT (K := K) rfl (kx_ixL (K := K) rfl (pv 0) (pv 1) (fun _ _ => rfl)) pe_int (fun _ _ => rfl)) pe_str (nomark _)) (pss_one (ps_ret (kx_any (K := K) rfl rfl (by rfl) T.any (pa_cons (pe_c c_ranked hr (by decide) (by rfl) (pa_cons (pv 0) (pa_cons (pv 1) (pa_cons (pv 2) pa_nil)))) pa_nil)))) pss_nil)
        (pss_one (ps_ret (pe_c c_sure_rule hr (by decide) (by rfl) (pa_cons (pv 0) (pa_cons (pv 1) (pa_cons (pv 2) (pa_cons (pv 3) pa_nil)))))))), fun as R hS => ?_⟩
  obtain ⟨g, i, rk, ins, rfl, hg, hi, hR⟩ := hS
  refine hs_seq (hs_if (eb_test (ev_k_draw (ev_ixG (ev_var rfl) (ev_var rfl) hi))) (fun h => ?_) (fun h => hs_next ?_))
  · refine hs_ret (ev_any (ev_ranked hg hi (ev_var rfl) (ev_var rfl) (el_bor rfl))) ?_
    show R _
    rw [any_tgs, ← chB_draw h]
    exact hR
  · refine hs_ret (ev_call (as := [.dat (eG g), .dat (eN i), .bor ((List.range g.length).map fun k => eO (rk k)), .dat (.list ins)]) (ea_dat (ev_var rfl) (ea_dat (ev_var rfl) (ea_bor (el_bor rfl) (ea_dat (ev_var rfl) ea_nil)))) fun R' hR' => ⟨g, i, rk, ins, rfl, hg, hi, hR'⟩) ?_
    show R _
    rw [← chB_su h]
    exact hR
/-! every_place: level 1; slots 0 game; calls [] -/
abbrev s_every_place : Stmt := topS 32
theorem sc_every_place : FnScope ["game"] ["game"] (defScope s_every_place) := ⟨rfl, rfl, rfl, by decide +kernel, rfl, by decide +kernel, by decide +kernel⟩
def S_every : List Ar → (PyData → Prop) → Prop := fun as R => ∃ g : Game, as = [.dat (eG g)] ∧ g.length ≤ 40 ∧ R (eNs (List.range g.length))
theorem ok_every_place {f : Addr} {fd : FuncData} (T : Tx K mg aN aO) (F : Fun K "every_place" "every_place" s_every_place f fd) : FnOk Pg w K mg base CX0 1 f fd ["game"] (spD K S_every) := by
  refine fok F sc_every_place (fun as R h => ?len) fun cdv A outer s H E hr => ?_
  case len => obtain ⟨_, rfl, _⟩ := h; rfl
  have nd := sc_every_place.nd
  refine ⟨_, (pss_one (ps_ret (pe_listRg rfl (by rfl) T.list (prg_1 (by rfl) T.range (kx_len (K := K) rfl (by rfl) T.len (pa_cons (pv 0) pa_nil)))))), fun as R hS => ?_⟩
  obtain ⟨g, rfl, hl, hR⟩ := hS
  exact hs_ret (EvN.f (en_listRg (n := g.length) ((ev_len (EvD.l (ev_var rfl))).is (by rw [List.length_map])) (by omega))) hR
/-! ranks_in: level 5; slots 0 game, 1 inside, 2 rule, 3 ranks, 4 place, 5 step, 6 fresh, 7 _; calls ['places_of 1'] -/
abbrev s_ranks_in : Stmt := topS 28
theorem sc_ranks_in : FnScope ["game", "inside", "rule", "ranks", "place", "step", "fresh", "_"] ["game", "inside", "rule"] (defScope s_ranks_in) := ⟨rfl, rfl, rfl, by decide +kernel, rfl, by decide +kernel, by decide +kernel⟩
structure RkOk (g : Game) (rk : Nat → Option Nat) : Prop where
  yes : ∀ i, i < g.length → (rk i).isSome = true → Rk g i
  fin : ∀ i, i < g.length → (pat g i).isFin = true → (rk i).isSome = true
  no : ∀ i, i < g.length → rk i = none → chB (pat g i) (fun t => (rk t).isSome) = false
def S_ranks_in (fc : Addr) : List Ar → (PyData → Prop) → Prop := fun as R => ∃ g : Game, as = [.dat (eG g), .dat (eNs (List.range g.length)), .val (.ref fc)] ∧ GW g ∧ ∀ rk : Nat → Option Nat, RkOk g rk → R (eF g.length fun k => eO (rk k))
theorem count_lt {n : Nat} {p q : Nat → Bool} (h : ∀ i, q i = true → p i = true) (j : Nat) (hj : j < n) (hp : p j = true) (hq : q j = false) : ((List.range n).filter q).length < ((List.range n).filter p).length := by
  have key : ∀ l : List Nat, (l.filter q).length ≤ (l.filter p).length ∧ (j ∈ l → (l.filter q).length < (l.filter p).length) := by
    intro l
    induction l with
    | nil => exact ⟨Nat.le_refl _, fun h => nomatch h⟩
    | cons a r ih =>
      cases ha : q a with
      | true =>
        have hpa := h a ha
        rw [List.filter_cons_of_pos ha, List.filter_cons_of_pos hpa]
        refine ⟨Nat.succ_le_succ ih.1, fun hm => ?_⟩
        rcases List.mem_cons.mp hm with e | e
        · subst e; rw [ha] at hq; cases hq
        · exact Nat.succ_lt_succ (ih.2 e)
      | false =>
        rw [List.filter_cons_of_neg (by rw [ha]; decide)]
        cases hpa : p a with
        | true =>
          rw [List.filter_cons_of_pos hpa]
          exact ⟨Nat.le_succ_of_le ih.1, fun _ => Nat.lt_succ_of_le ih.1⟩
        | false =>
          rw [List.filter_cons_of_neg (by rw [hpa]; decide)]
          refine ⟨ih.1, fun hm => ?_⟩
          rcases List.mem_cons.mp hm with e | e
          · subst e; rw [hpa] at hp; cases hp
          · exact ih.2 e
  exact (key _).2 (List.mem_range.mpr hj)
theorem ok_ranks_in {f fc : Addr} {fd fdc : FuncData} (T : Tx K mg aN aO) (F : Fun K "ranks_in" "ranks_in" s_ranks_in f fd) (c_places_of : Cal Pg w K mg base 1 "places_of" (spD K S_places_of)) (G_rule : FnOk Pg w K mg base CX0 4 fc fdc ["game", "place", "ranks", "inside"] (spD K S_chance_rule)) (K_rule : PySem.W.keepIn K (.ref fc) = true) (B_rule : Binds K fdc ["game", "place", "ranks", "inside"] []) : FnOk Pg w K mg base CX0 5 f fd ["game", "inside", "rule"] (spD K (S_ranks_in fc)) := by
  refine fok F sc_ranks_in (fun as R h => ?len) fun cdv A outer s H E hr => ?_
  case len => obtain ⟨g, rfl, _⟩ := h; rfl
  have nd := sc_ranks_in.nd
  refine ⟨_, (pss_cons (ps_asg (pe_lc (own := [("_", 7)]) (g := (gName 7)) (by rfl) nd (ki_list (K := K) rfl (pv 0)) (blkOk_by (N := ["game", "inside", "rule", "ranks", "place", "step", "fresh", "_"]) (sc := defScope s_ranks_in) (by decide +kernel)) (fun _ _ _ _ _ => (pg_name (i := 7) nd rfl (Or.inl rfl))) (fun _ _ _ _ _ => pts_nil) (fun _ _ _ _ _ => pe_non)) (pg_name (i := 3) nd rfl (Or.inr rfl)))
        (pss_cons (ps_for PassesOwn.never rfl (ki_list (K := K) rfl (pe_c c_places_of hr (by decide) (by rfl) (pa_cons (pv 0) (pa_cons pe_str pa_nil)))) (pg_name (i := 4) nd rfl (Or.inl rfl)) (pss_one (ps_if (kt_in (K := K) rfl (pv 4) (pv 1) rfl) (pss_one (ps_asg pe_int (pg_sub (pv 3) (pv 4) set_list))) pss_nil)))
        (pss_cons (ps_set (i := 5) nd rfl (Or.inl rfl) pe_int)
        (pss_cons (ps_set (i := 6) nd rfl (Or.inl rfl) (kx_list (K := K) rfl (by rfl) T.list (pa_cons (pv 1) pa_nil)))
        (pss_cons (ps_while PassesOwn.never (kt_neD (K := K) rfl hr (pv 6) (pe_lst pa_nil)) (pss_cons (ps_aug (i := 5) nd rfl (Or.inl rfl) pe_int ip_add)
        (pss_cons (ps_setLc (i := 6) (own := [("place", 4)]) (g := (gName 4)) (by rfl) nd rfl rfl (sw_true rfl rfl rfl (by decide +kernel)) (ki_list (K := K) rfl (pv 1)) (blkOk_by (N := ["game", "inside", "rule", "ranks", "place", "step", "fresh", "_"]) (sc := defScope s_ranks_in) (by decide +kernel)) (fun _ _ _ _ _ => (pg_name (i := 4) nd rfl (Or.inl rfl))) (fun _ _ _ _ _ => (pts_one (PW.pt (pw_and (pt_cmpR op_isN (kx_ixL (K := K) rfl (pv 3) (pv 4) (fun _ _ => rfl)) pe_non (nomark _)) (pw_and1 (pt_val (pe_callL (i := 2) G_rule hr rfl (by first | exact Or.inl rfl | exact Or.inr (Or.inl rfl) | exact Or.inr (Or.inr rfl)) K_rule B_rule .nil pass0 (pa_cons (pv 0) (pa_cons (pv 4) (pa_cons (pv 3) (pa_cons (pv 1) pa_nil))))))))))) (fun _ _ _ _ _ => (pv 4)))
        (pss_one (ps_for PassesOwn.never rfl (ki_list (K := K) rfl (pv 6)) (pg_name (i := 4) nd rfl (Or.inl rfl)) (pss_one (ps_asg (pv 5) (pg_sub (pv 3) (pv 4) set_list))))))))
        (pss_one (ps_ret (pv 3)))))))), fun as R hS => ?_⟩
  obtain ⟨g, rfl, hg, hR⟩ := hS
  have hgl := hg.len
  refine hs_seq (hs_asgN (ds := (List.range g.length).map fun k => eO none) ((en_map (enc := ePl) g (fun _ => .none) (ei_list (ev_var rfl)) (by omega) fun p hp => ⟨_, .name 7 (ePl p), ev_non⟩).is ?_) ?_)
  · apply List.ext_getElem?
    intro j
    rw [List.getElem?_map, List.getElem?_map]
    by_cases h : j < g.length
    · rw [List.getElem?_range h, List.getElem?_eq_getElem h]; rfl
    · rw [List.getElem?_eq_none (by omega), List.getElem?_eq_none (by rw [List.length_range]; omega)]; rfl
  have hfin : ((List.range g.length).filter fun i => decide (kindS (pat g i) = "finish")) = (List.range g.length).filter fun i => (pat g i).isFin := List.filter_congr fun i _ => by rw [kd_fin, is_fin_eq]
  refine hs_seq (hs_forM ((List.range g.length).filter fun i => (pat g i).isFin) (enc := eN) (fun j ρ => ∃ (rk : Nat → Option Nat) (x4 : Sl), ρ = [.dat (eG g), .dat (eNs (List.range g.length)), .val (.ref fc), .lis ((List.range g.length).map fun k => eO (rk k)), x4, .any, .any, .any] ∧ (∀ i, (rk i).isSome = true → (pat g i).isFin = true) ∧ ∀ i ∈ ((List.range g.length).filter fun i => (pat g i).isFin).take j, (rk i).isSome = true)
    (ei_listM (ev_call (as := [.dat (eG g), .dat (.str "finish")]) (by walk_at "ev") fun R' hR' => ⟨g, _, rfl, hgl, by rw [hfin]; exact hR'⟩)) ⟨fun _ => none, .any, rfl, fun i h => Bool.noConfusion (show false = true from h), fun i h => by simp at h⟩ (fun j i ρ hj hρ => ?_) (fun ρ hρ => ?_))
  · obtain ⟨rk, x4, rfl, h1, h2⟩ := hρ
    have hi := List.mem_filter.mp (List.mem_of_getElem? hj)
    have hin := List.mem_range.mp hi.1
    refine hg_name (hs_if (b := true) ((eb_test (ev_inN (i := i) (l := List.range g.length) (ev_var rfl) (EvD.l (ev_var rfl)))).is (decide_eq_true hi.1)) (fun _ => ?_) (fun z => nomatch z))
    refine hs_setIn (i := 3) (k := i) (d := eO (some 0)) rfl ev_int (ev_var rfl) (by rw [List.length_map, List.length_range]; exact hin) ?_
    refine ⟨fun k => if k = i then some 0 else rk k, .dat (eN i), ?_, fun k hk => ?_, fun k hk => ?_⟩
    · have e : (((List.range g.length).map fun k => eO (rk k)).set i (eO (some 0))) = (List.range g.length).map fun k => eO (if k = i then some 0 else rk k) := by
        rw [set_range]
        exact List.map_congr_left fun k _ => by split <;> rfl
      rw [← e]
      rfl
    · have hk' : (if k = i then some 0 else rk k).isSome = true := hk
      by_cases e : k = i
      · rw [e]; exact hi.2
      · rw [if_neg e] at hk'; exact h1 k hk'
    · show (if k = i then some 0 else rk k).isSome = true
      by_cases e : k = i
      · rw [if_pos e]; rfl
      · rw [if_neg e]
        rw [List.take_add_one, hj] at hk
        rcases List.mem_append.mp hk with h | h
        · exact h2 k h
        · exact absurd (by simpa using h) e
  · obtain ⟨rk0, x4, rfl, h1, h2⟩ := hρ
    rw [List.take_length] at h2
    refine hs_seq (hs_asg ev_int ?_)
    refine hs_seq (hs_asg (EvN.f (en_list (EvD.l (ev_var rfl)))) ?_)
    refine hs_seq (hs_while (fun m ρ => ∃ (rk : Nat → Option Nat) (fr : List Nat) (st : Nat) (x4 : Sl), ρ = [.dat (eG g), .dat (eNs (List.range g.length)), .val (.ref fc), .lis ((List.range g.length).map fun k => eO (rk k)), x4, .dat (eN st), .dat (eNs fr), .any] ∧
      (∀ i, i < g.length → (rk i).isSome = true → Rk g i) ∧ (∀ i, i < g.length → (pat g i).isFin = true → (rk i).isSome = true) ∧ (fr = [] → ∀ i, i < g.length → rk i = none → chB (pat g i) (fun t => (rk t).isSome) = false) ∧ ((List.range g.length).filter fun i => (rk i).isNone).length + (if fr = [] then 0 else 1) = m)
      _ ⟨rk0, List.range g.length, 0, x4, rfl, fun i _ h => .fin (h1 i h), fun i hi h => h2 i (List.mem_filter.mpr ⟨List.mem_range.mpr hi, h⟩), fun h i hi => ?_, rfl⟩ fun m ρ hρ => ?_)
    · have h3 := List.mem_range.mpr hi
      rw [h] at h3
      cases h3
    · obtain ⟨rk, fr, st, x4, rfl, k1, k2, k3, hm⟩ := hρ
      refine ⟨!fr.isEmpty, (eb_test (ev_neD (y := .list []) (ev_var rfl) (EvN.f (en_lst (ds := []) ea_nil (by show 0 ≤ 100000; decide))) (shaped_eNs fr) shaped_nil)).is (by rw [eqv_nil]), fun hb => ?_, fun hb => ?_⟩
      · have hne : fr ≠ [] := fun z => by subst z; exact absurd hb (by decide)
        rw [if_neg hne] at hm
        refine hs_seq (hs_aug (f := fun i j => i + j) (a := (st : Int)) (b := 1) rfl ev_int ?_)
        let q : Nat → Bool := fun i => (rk i).isNone && chB (pat g i) fun t => (rk t).isSome
        refine hs_seq (hs_asg (d := eNs ((List.range g.length).filter q)) (EvN.f (en_lc (enc := eN) (List.range g.length) q eN (ei_list (ev_var rfl)) (by rw [List.length_range]; omega) fun i hi => ⟨_, .name 4 (eN i), eb_and (eb_test (ev_isO (ev_ixF (n := g.length) (f := fun k => eO (rk k)) (EvC.l (ec_var rfl)) (ev_var rfl) (List.mem_range.mp hi)))) (fun _ => eb_B ?_), fun _ => ev_var rfl⟩)) ?_)
        · exact ev_callL (as := [.dat (eG g), .dat (eN i), .bor ((List.range g.length).map fun k => eO (rk k)), .dat (eNs (List.range g.length))]) rfl (ea_dat (ev_var rfl) (ea_dat (ev_var rfl) (ea_bor (EvC.l (ec_var rfl)) (ea_dat (ev_var rfl) ea_nil)))) fun R' hR' => ⟨g, i, rk, _, rfl, hg, List.mem_range.mp hi, hR'⟩
        refine hs_forM ((List.range g.length).filter q) (enc := eN) (fun j ρ => ∃ (x4 : Sl), ρ = [.dat (eG g), .dat (eNs (List.range g.length)), .val (.ref fc), .lis ((List.range g.length).map fun k => eO (if k ∈ ((List.range g.length).filter q).take j then some (st + 1) else rk k)), x4, .dat (eN (st + 1)), .dat (eNs ((List.range g.length).filter q)), .any]) (ei_list (ev_var rfl)) ⟨x4, ?_⟩ (fun j i ρ hj hρ => ?_) (fun ρ hρ => ?_)
        · rfl
        · obtain ⟨x4, rfl⟩ := hρ
          have hin := List.mem_range.mp (List.mem_filter.mp (List.mem_of_getElem? hj)).1
          refine hg_name (hs_setIn (i := 3) (k := i) (d := eO (some (st + 1))) rfl (ev_var rfl) (ev_var rfl) (by rw [List.length_map, List.length_range]; exact hin) ⟨.dat (eN i), ?_⟩)
          have e : (((List.range g.length).map fun k => eO (if k ∈ ((List.range g.length).filter q).take j then some (st + 1) else rk k)).set i (eO (some (st + 1)))) = (List.range g.length).map fun k => eO (if k ∈ ((List.range g.length).filter q).take (j + 1) then some (st + 1) else rk k) := by
            rw [set_range]
            refine List.map_congr_left fun k _ => ?_
            rw [List.take_add_one, hj]
            by_cases e : k = i
            · rw [if_pos e, if_pos (List.mem_append_right _ (by rw [e]; exact List.mem_singleton_self i))]
            · rw [if_neg e]
              by_cases e2 : k ∈ ((List.range g.length).filter q).take j
              · rw [if_pos e2, if_pos (List.mem_append_left _ e2)]
              · rw [if_neg e2, if_neg fun z => (List.mem_append.mp z).elim e2 fun z => e (by simpa using z)]
          rw [← e]
          rfl
        · obtain ⟨x4, rfl⟩ := hρ
          rw [List.take_length]
          have hq : ∀ k, k < g.length → (k ∈ (List.range g.length).filter q ↔ q k = true) := fun k hk => by rw [List.mem_filter, List.mem_range]; exact ⟨fun z => z.2, fun z => ⟨hk, z⟩⟩
          refine ⟨_, ?_, fun k => if k ∈ (List.range g.length).filter q then some (st + 1) else rk k, (List.range g.length).filter q, st + 1, x4, rfl, fun i hi h => ?_, fun i hi h => ?_, fun he i hi h => ?_, rfl⟩
          · by_cases he : (List.range g.length).filter q = []
            · rw [if_pos he, he]
              simp only [List.not_mem_nil, if_false]
              omega
            · rw [if_neg he]
              obtain ⟨j, hj⟩ := List.exists_mem_of_ne_nil _ he
              have hj2 := List.mem_filter.mp hj
              have hjn := List.mem_range.mp hj2.1
              have hnone : (rk j).isNone = true := by
                have := hj2.2
                exact (Bool.and_eq_true_iff.mp this).1
              have := count_lt (n := g.length) (p := fun i => (rk i).isNone) (q := fun i => (if i ∈ (List.range g.length).filter q then some (st + 1) else rk i).isNone) (fun i h => by
                by_cases e : i ∈ (List.range g.length).filter q
                · rw [if_pos e] at h; cases h
                · rw [if_neg e] at h; exact h) j hjn hnone (by
                show (if j ∈ (List.range g.length).filter q then some (st + 1) else rk j).isNone = false
                rw [if_pos hj]; rfl)
              dsimp only
              omega
          · have h' : (if i ∈ (List.range g.length).filter q then some (st + 1) else rk i).isSome = true := h
            by_cases e : i ∈ (List.range g.length).filter q
            · have h3 := (Bool.and_eq_true_iff.mp ((hq i hi).mp e)).2
              exact rk_of h3 fun t ht hts => k1 t (hg.lt i hi t ht) hts
            · rw [if_neg e] at h'
              exact k1 i hi h'
          · show (if i ∈ (List.range g.length).filter q then some (st + 1) else rk i).isSome = true
            split
            · rfl
            · exact k2 i hi h
          · have h' : (if i ∈ (List.range g.length).filter q then some (st + 1) else rk i) = none := h
            rw [he] at h' ⊢
            simp only [List.not_mem_nil, if_false] at h' ⊢
            have h3 : q i = false := by
              cases hqi : q i with
              | false => rfl
              | true =>
                have := (hq i hi).mpr hqi
                rw [he] at this
                cases this
            have h4 : ((rk i).isNone && chB (pat g i) fun t => (rk t).isSome) = false := h3
            rw [h'] at h4
            exact h4
      · have hnil : fr = [] := by
          cases fr with
          | nil => rfl
          | cons a r => exact absurd hb (by simp)
        exact hs_retF (i := 3) rfl (hR rk ⟨k1, k2, k3 hnil⟩)
end
end G
end
section
set_option Elab.async false
set_option linter.all false
set_option maxRecDepth 100000
set_option maxHeartbeats 4000000
/-! walks: places of no chance; strategies made better -/
namespace G
open PySem PySem.Spec PyProof.Rows L2
local macro_rules | `(tactic| walk_at "ev") => `(tactic| repeat' (first
  | ((with_reducible refine' ev_var ?_); rfl) | ((with_reducible refine' EvD.l (ev_var ?_)); rfl) | ((with_reducible refine' el_bor ?_); rfl) | ((with_reducible refine' EvC.l (ec_var ?_)); rfl) | ((with_reducible refine' evv_var ?_); rfl) | with_reducible exact ev_int | with_reducible exact ev_str | with_reducible exact ev_bl | with_reducible exact ev_non
  | ((with_reducible refine' Tx.evN ?_); assumption) | ((with_reducible refine' Tx.evO ?_); assumption)
  | with_reducible exact ea_nil | with_reducible refine' ea_dat ?_ ?_ | with_reducible refine' ea_bor ?_ ?_ | with_reducible refine' ea_val ?_ ?_
  | with_reducible refine' ev_add ?_ ?_ | with_reducible refine' ev_sub ?_ ?_ | with_reducible refine' ev_mulW ?_ ?_ ?_ | with_reducible refine' ev_neg ?_ | with_reducible refine' ev_cmp ?_ ?_
  | with_reducible refine' ev_q0 ?_ | with_reducible refine' ev_q1 ?_
  | with_reducible refine' ev_k_draw ?_ | with_reducible refine' ev_k_ours ?_ | with_reducible refine' ev_k_theirs ?_ | with_reducible refine' ev_k_reward ?_ | with_reducible refine' ev_k_fin ?_ | with_reducible refine' ev_k_lose ?_
  | with_reducible refine' ev_n_draw ?_ | with_reducible refine' ev_n_ours ?_ | with_reducible refine' ev_n_theirs ?_ | with_reducible refine' ev_n_reward ?_ | with_reducible refine' ev_n_fin ?_ | with_reducible refine' ev_n_lose ?_
  | with_reducible refine' ev_side ?_ ?_ | with_reducible refine' ev_kind ?_
  | with_reducible refine' eb_test ?_ | with_reducible refine' eb_B ?_ | with_reducible refine' ev_int1 ?_ | with_reducible refine' eb_not ?_ | with_reducible refine' eb_or ?_ (fun _ => ?_) | with_reducible refine' eb_and ?_ (fun _ => ?_) | with_reducible refine' ev_t0 ?_ | with_reducible refine' ev_t1 ?_ | with_reducible refine' ev_t2 ?_))
local macro_rules | `(tactic| walk_at "ifT") => `(tactic| (refine' hs_seq (hs_ifT (b := _) ?h ?n ?e); (case h => walk_at "ev"); (case e => rfl)))
local macro_rules | `(tactic| walk_at "ifF") => `(tactic| (refine' hs_seq (hs_ifF (b := _) ?h (hs_next ?n) ?e); (case h => walk_at "ev"); (case e => rfl)))
section
variable {Pg : Program} {w : World} {K : PySem.W.Frag} {mg : Str → Option Value} {base : Heap} {aN aO : Addr}
/-! chance_ranks: level 6; slots 0 game; calls ['ranks_in 5', 'every_place 1'] -/
abbrev s_chance_ranks : Stmt := topS 33
theorem sc_chance_ranks : FnScope ["game"] ["game"] (defScope s_chance_ranks) := ⟨rfl, rfl, rfl, by decide +kernel, rfl, by decide +kernel, by decide +kernel⟩
def S_chance_ranks : List Ar → (PyData → Prop) → Prop := fun as R => ∃ g : Game, as = [.dat (eG g)] ∧ GW g ∧ ∀ rk : Nat → Option Nat, RkOk g rk → R (eF g.length fun k => eO (rk k))
theorem ok_chance_ranks {f fc : Addr} {fd : FuncData} (T : Tx K mg aN aO) (F : Fun K "chance_ranks" "chance_ranks" s_chance_ranks f fd) (c_ranks_in : Cal Pg w K mg base 5 "ranks_in" (spD K (S_ranks_in fc))) (c_every_place : Cal Pg w K mg base 1 "every_place" (spD K S_every)) (g_chance_rule : mg "chance_rule" = some (.ref fc)) : FnOk Pg w K mg base CX0 6 f fd ["game"] (spD K S_chance_ranks) := by
  refine fok F sc_chance_ranks (fun as R h => ?len) fun cdv A outer s H E hr => ?_
  case len => obtain ⟨g, rfl, _⟩ := h; rfl
  have nd := sc_chance_ranks.nd
  refine ⟨_, (pss_one (ps_ret (pe_c c_ranks_in hr (by decide) (by rfl) (pa_cons (pv 0) (pa_cons (pe_c c_every_place hr (by decide) (by rfl) (pa_cons (pv 0) pa_nil)) (pa_cons (pe_glob (v := .ref fc) rfl g_chance_rule rfl) pa_nil)))))), fun as R hS => ?_⟩
  obtain ⟨g, rfl, hg, hR⟩ := hS
  refine hs_retR (R := fun d => ∃ rk, d = eF g.length (fun k => eO (rk k)) ∧ RkOk g rk) (evr_call (as := [.dat (eG g), .dat (eNs (List.range g.length)), .val (.ref fc)]) (ea_dat (ev_var rfl) (ea_dat (ev_call (as := [.dat (eG g)]) (ea_dat (ev_var rfl) ea_nil) fun R' hR' => ⟨g, rfl, hg.len, hR'⟩) (ea_val evv_c ea_nil))) fun R' hR' => ⟨g, rfl, hg, fun rk h => hR' _ ⟨rk, rfl, h⟩⟩) fun d hd => ?_
  obtain ⟨rk, rfl, h⟩ := hd
  exact hR rk h
/-! no_chance: level 7; slots 0 game, 1 place, 2 rank; calls ['chance_ranks 6'] -/
abbrev s_no_chance : Stmt := topS 34
theorem sc_no_chance : FnScope ["game", "place", "rank"] ["game"] (defScope s_no_chance) := ⟨rfl, rfl, rfl, by decide +kernel, rfl, by decide +kernel, by decide +kernel⟩
def S_no_chance : List Ar → (PyData → Prop) → Prop := fun as R => ∃ g : Game, as = [.dat (eG g)] ∧ GW g ∧ ∀ N : List Nat, NcOk g N → R (eNs N)
theorem nc_of {g : Game} {rk : Nat → Option Nat} (hg : GW g) (h : RkOk g rk) : NcOk g ((List.range g.length).filter fun i => (rk i).isNone) := by
  have hm : ∀ i, i ∈ (List.range g.length).filter (fun i => (rk i).isNone) ↔ i < g.length ∧ (rk i).isNone = true := fun i => by rw [List.mem_filter, List.mem_range]
  have hn : ∀ i, (rk i).isNone = true → rk i = none := fun i z => by
    cases hi : rk i with
    | none => rfl
    | some a => rw [hi] at z; cases z
  refine ⟨fun i hi => ((hm i).mp hi).1, fun i hi hN => h.yes i hi ?_, fun i hi => ?_, fun i hi => ?_⟩
  · cases hr : rk i with
    | some a => rfl
    | none => exact absurd ((hm i).mpr ⟨hi, by rw [hr]; rfl⟩) hN
  · have h1 := (hm i).mp hi
    cases hf : (pat g i).isFin with
    | false => rfl
    | true =>
      have := h.fin i h1.1 hf
      rw [hn i h1.2] at this
      cases this
  · have h1 := (hm i).mp hi
    rw [← h.no i h1.1 (hn i h1.2)]
    refine chB_mono fun t ht => ?_
    have htl := hg.lt i h1.1 t ht
    cases hr : rk t with
    | some a =>
      rw [decide_eq_false (fun z => by have := ((hm t).mp z).2; rw [hr] at this; cases this)]; rfl
    | none =>
      rw [decide_eq_true ((hm t).mpr ⟨htl, by rw [hr]; rfl⟩)]; rfl
theorem ok_no_chance {f : Addr} {fd : FuncData} (T : Tx K mg aN aO) (F : Fun K "no_chance" "no_chance" s_no_chance f fd) (c_chance_ranks : Cal Pg w K mg base 6 "chance_ranks" (spD K S_chance_ranks)) : FnOk Pg w K mg base CX0 7 f fd ["game"] (spD K S_no_chance) := by
  refine fok F sc_no_chance (fun as R h => ?len) fun cdv A outer s H E hr => ?_
  case len => obtain ⟨_, rfl, _⟩ := h; rfl
  have nd := sc_no_chance.nd
  refine ⟨_, (pss_one (ps_ret (pe_lc (own := [("place", 1), ("rank", 2)]) (g := (gTup K 2 (gCons (gName 1) (gCons (gName 2) gNil)))) (by rfl) nd (ki_enum (K := K) rfl (by rfl) T.enumerate (pa_cons (pe_c c_chance_ranks hr (by decide) (by rfl) (pa_cons (pv 0) pa_nil)) pa_nil)) (blkOk_by (N := ["game", "place", "rank"]) (sc := defScope s_no_chance) (by decide +kernel)) (fun _ _ _ _ _ => (kg_tup (K := K) (n := 2) rfl rfl (pgs_cons (pg_name (i := 1) nd rfl (Or.inl rfl)) (pgs_cons (pg_name (i := 2) nd rfl (Or.inl rfl)) pgs_nil)))) (fun _ _ _ _ _ => (pts_one (pt_cmpR op_isN (pv 2) pe_non (nomark _)))) (fun _ _ _ _ _ => (pv 1))))), fun as R hS => ?_⟩
  obtain ⟨g, rfl, hg, hR⟩ := hS
  have hgl := hg.len
  refine hs_retR (R := fun d => ∃ N, d = eNs N ∧ NcOk g N) (EvNR.f (enr_lcE (A := fun f => ∃ rk, (f = fun k => eO (rk k)) ∧ RkOk g rk) g.length (by omega) (evr_call (as := [.dat (eG g)]) (ea_dat (ev_var rfl) ea_nil) fun R' hR' => ⟨g, rfl, hg, fun rk h => hR' _ ⟨_, rfl, rk, rfl, h⟩⟩) (fun f i => isNon (f i)) eN fun f hf i hi => ⟨_, .pair 1 2 (eN i) (f i), ?_, fun _ => ev_var rfl⟩) fun ds hds => ?_) (fun d hd => by obtain ⟨N, rfl, h⟩ := hd; exact hR N h)
  · exact eb_test (ev_isN (ev_var rfl))
  · obtain ⟨f, ⟨rk, rfl, hrk⟩, rfl⟩ := hds
    refine ⟨_, ?_, nc_of hg hrk⟩
    show PyData.list _ = PyData.list _
    congr 2
    refine List.filter_congr fun i _ => ?_
    show isNon (eO (rk i)) = _
    cases rk i <;> rfl
/-! keeping_away: level 8; slots 0 game, 1 outside, 2 strategy, 3 place, 4 here, 5 branch, 6 target; calls ['no_chance 7'] -/
abbrev s_keeping_away : Stmt := topS 35
theorem sc_keeping_away : FnScope ["game", "outside", "strategy", "place", "here", "branch", "target"] ["game"] (defScope s_keeping_away) := ⟨rfl, rfl, rfl, by decide +kernel, rfl, by decide +kernel, by decide +kernel⟩
def S_keeping : List Ar → (PyData → Prop) → Prop := fun as R => ∃ g : Game, as = [.dat (eG g)] ∧ GW g ∧ (∀ i, i < g.length → (pat g i).side ≠ none → (pat g i).tgs ≠ []) ∧ ∀ (N : List Nat) (st : Strat), NcOk g N → StOk .them g st → (∀ i ∈ N, (pat g i).side = some .them → tgt g st i ∈ N) → R (eSt st)
/-- what the loop makes at a place -/
def kaB (g : Game) (N : List Nat) (i : Nat) : Option Nat := match pat g i with
  | .theirs ts => if i ∈ N then some (ts.findIdx fun t => decide (t ∈ N)) else some 0
  | _ => none
theorem getD_range {α : Type} {n i : Nat} (f : Nat → α) (a : α) (h : i < n) : ((List.range n).map f).getD i a = f i := by
  rw [List.getD_eq_getElem?_getD, getF f h]; rfl
theorem eSt_range (n : Nat) (f : Nat → Option Nat) : eSt ((List.range n).map f) = .list ((List.range n).map fun k => eO (f k)) := by
  unfold eSt
  rw [List.map_map]; rfl
theorem ok_keeping_away {f : Addr} {fd : FuncData} (T : Tx K mg aN aO) (F : Fun K "keeping_away" "keeping_away" s_keeping_away f fd) (c_no_chance : Cal Pg w K mg base 7 "no_chance" (spD K S_no_chance)) : FnOk Pg w K mg base CX0 8 f fd ["game"] (spD K S_keeping) := by
  refine fok F sc_keeping_away (fun as R h => ?len) fun cdv A outer s H E hr => ?_
  case len => obtain ⟨_, rfl, _⟩ := h; rfl
  have nd := sc_keeping_away.nd
  refine ⟨_, (pss_cons (ps_set (i := 1) nd rfl (Or.inr rfl) (pe_c c_no_chance hr (by decide) (by rfl) (pa_cons (pv 0) pa_nil)))
        (pss_cons (ps_set (i := 2) nd rfl (Or.inl rfl) (pe_lst pa_nil))
        (pss_cons (ps_for PassesOwn.never rfl (ki_enum (K := K) rfl (by rfl) T.enumerate (pa_cons (pv 0) pa_nil)) (kg_tup (K := K) (n := 2) rfl rfl (pgs_cons (pg_name (i := 3) nd rfl (Or.inl rfl)) (pgs_cons (pg_name (i := 4) nd rfl (Or.inl rfl)) pgs_nil))) (pss_cons (ps_set (i := 5) nd rfl (Or.inl rfl) pe_non)
        (pss_cons (ps_if (pt_cmpR op_eq (kx_ixT (K := K) rfl (pv 4) pe_int (fun _ _ => rfl)) pe_str (nomark _)) (pss_cons (ps_set (i := 5) nd rfl (Or.inl rfl) pe_int)
        (pss_one (ps_if (kt_in (K := K) rfl (pv 3) (pv 1) rfl) (pss_one (ps_set (i := 5) nd rfl (Or.inl rfl) (kx_index (K := K) rfl (pe_lc (own := [("target", 6)]) (g := (gName 6)) (by rfl) nd (ki_list (K := K) rfl (kx_ixT (K := K) rfl (pv 4) pe_int (fun _ _ => rfl))) (blkOk_by (N := ["game", "outside", "strategy", "place", "here", "branch", "target"]) (sc := defScope s_keeping_away) (by decide +kernel)) (fun _ _ _ _ _ => (pg_name (i := 6) nd rfl (Or.inl rfl))) (fun _ _ _ _ _ => pts_nil) (fun _ _ _ _ _ => (kx_in (K := K) rfl (pv 6) (pv 1) rfl))) (pa_cons pe_bl pa_nil)))) pss_nil))) pss_nil)
        (pss_one (ps_expr (kx_append (K := K) rfl (pv 2) (pa_cons (pv 5) pa_nil)))))))
        (pss_one (ps_ret (pv 2)))))), fun as R hS => ?_⟩
  obtain ⟨g, rfl, hg, hne, hR⟩ := hS
  have hgl := hg.len
  refine hs_seq (hs_asgR (R := fun d => ∃ N, d = eNs N ∧ NcOk g N) (evr_call (as := [.dat (eG g)]) (ea_dat (ev_var rfl) ea_nil) fun R' hR' => ⟨g, rfl, hg, fun N h => hR' _ ⟨N, rfl, h⟩⟩) fun d hd => ?_)
  obtain ⟨N, rfl, hN⟩ := hd
  have hfind : ∀ i ts, i < g.length → pat g i = .theirs ts → i ∈ N → ∃ t ∈ ts, t ∈ N := fun i ts hi hp hiN => by
    have h1 := hN.cl i hiN
    rw [hp] at h1
    have h2 : ts.all (fun t => !decide (t ∈ N)) = false := h1
    rw [List.all_eq_false] at h2
    obtain ⟨t, h3, h4⟩ := h2
    exact ⟨t, h3, by simpa using h4⟩
  have hj : ∀ i ts, i < g.length → pat g i = .theirs ts → i ∈ N → (ts.findIdx fun t => decide (t ∈ N)) < ts.length := fun i ts hi hp hiN => by
    obtain ⟨t, h3, h4⟩ := hfind i ts hi hp hiN
    exact List.findIdx_lt_length_of_exists ⟨t, h3, decide_eq_true h4⟩
  refine hs_seq (hs_asgN (en_lst (ds := []) ea_nil (by show 0 ≤ 100000; decide)) ?_)
  refine hs_seq (hs_forN g.length (fun i ρ => ∃ x3 x4 x5, ρ = [.dat (eG g), .dat (eNs N), .lis ((List.range i).map fun k => eO (kaB g N k)), x3, x4, x5, .any]) (ei_enumG (ev_var rfl)) ⟨.any, .any, .any, rfl⟩ (fun i ρ hi hρ => ?_) (fun ρ hρ => ?_))
  · obtain ⟨x3, x4, x5, rfl⟩ := hρ
    refine hg_pair (hs_seq (hs_asg ev_non ?_))
    refine hs_seq_of (fun ρ => ρ = [.dat (eG g), .dat (eNs N), .lis ((List.range i).map fun k => eO (kaB g N k)), .dat (eN i), .dat (ePl (pat g i)), .dat (eO (kaB g N i)), .any]) (hs_if (eb_test (ev_k_theirs (ev_var rfl))) (fun h => ?_) (fun h => hs_next ?_)) (fun ρ hρ => ?_)
    · obtain ⟨ts, hp⟩ : ∃ ts, pat g i = .theirs ts := by
        cases hp : pat g i <;> rw [hp] at h <;> first | exact ⟨_, rfl⟩ | exact Bool.noConfusion (show false = true from h)
      refine hs_seq (hs_asg ev_int (hs_if (eb_test (ev_inN (i := i) (l := N) (ev_var rfl) (EvD.l (ev_var rfl)))) (fun h2 => ?_) (fun h2 => hs_next ?_)))
      · have hiN : i ∈ N := of_decide_eq_true h2
        have hjl := hj i ts hi hp hiN
        refine hs_asg (d := eN (ts.findIdx fun t => decide (t ∈ N))) (ev_indexB (ns := ts.map fun t => decide (t ∈ N)) (i := true) (j := ts.findIdx fun t => decide (t ∈ N)) (EvN.l ((en_map (enc := eN) ts (fun t => .bool (decide (t ∈ N))) (ei_list (ev_t1 (ds := []) (d0 := .str "theirs") (ev_var (by rw [hp]; rfl)))) ?_ fun t ht => ⟨_, .name 6 (eN t), ev_inN (ev_var rfl) (EvD.l (ev_var rfl))⟩).is (by rw [List.map_map]; rfl))) ev_bl ?_ fun m hm z => ?_) ?_
        · have := hg.few i hi
          rw [hp] at this
          have h3 : ts.length ≤ 6 := this
          omega
        · rw [List.getElem?_map, List.getElem?_eq_getElem hjl]
          have := List.findIdx_getElem (w := hjl)
          exact congrArg some this
        · have h3 := List.not_of_lt_findIdx hm
          have hml : m < ts.length := by omega
          rw [List.getElem?_map, List.getElem?_eq_getElem hml] at z
          have h4 : decide (ts[m] ∈ N) = true := Option.some.inj z
          exact Bool.noConfusion (h4.symm.trans h3)
        · show _ = [_, _, _, _, _, Sl.dat (eO (kaB g N i)), _]
          have e : kaB g N i = some (ts.findIdx fun t => decide (t ∈ N)) := by
            unfold kaB
            rw [hp]
            exact if_pos hiN
          rw [e]
          rfl
      · show _ = [_, _, _, _, _, Sl.dat (eO (kaB g N i)), _]
        have e : kaB g N i = some 0 := by
          unfold kaB
          rw [hp]
          exact if_neg (of_decide_eq_false h2)
        rw [e]
        rfl
    · have e : kaB g N i = none := by
        unfold kaB
        cases hp : pat g i <;> first | rfl | (rw [hp] at h; exact Bool.noConfusion (show true = false from h))
      rw [e]
      rfl
    · subst hρ
      refine hs_append (i := 2) rfl (ev_var rfl) (by rw [List.length_map, List.length_range]; omega) ⟨.dat (eN i), .dat (ePl (pat g i)), .dat (eO (kaB g N i)), ?_⟩
      rw [range_succ_map]
      rfl
  · obtain ⟨x3, x4, x5, rfl⟩ := hρ
    refine hs_retF (i := 2) rfl ?_
    show R _
    rw [← eSt_range]
    have hyes : ∀ i, i < g.length → (pat g i).side = some .them → ∃ b, kaB g N i = some b ∧ b < (pat g i).tgs.length ∧ (i ∈ N → (pat g i).tgs.getD b 0 ∈ N) := fun i hi hs => by
      obtain ⟨ts, hp⟩ : ∃ ts, pat g i = .theirs ts := by
        cases hp : pat g i <;> rw [hp] at hs <;> first | exact ⟨_, rfl⟩ | (exact absurd hs (by intro z; cases z))
      unfold kaB
      rw [hp]
      by_cases hiN : i ∈ N
      · have hjl := hj i ts hi hp hiN
        refine ⟨_, if_pos hiN, hjl, fun _ => ?_⟩
        show ts.getD _ 0 ∈ N
        rw [List.getD_eq_getElem?_getD, List.getElem?_eq_getElem hjl]
        exact of_decide_eq_true (List.findIdx_getElem (w := hjl))
      · refine ⟨_, if_neg hiN, ?_, fun z => absurd z hiN⟩
        have h3 := hne i hi (by rw [hs]; exact fun z => nomatch z)
        rw [hp] at h3
        exact List.length_pos_iff.mpr h3
    refine hR N _ hN ⟨by rw [List.length_map, List.length_range], fun i hi hs => ?_, fun i hi hs => ?_⟩ fun i hiN hs => ?_
    · obtain ⟨b, h1, h2, _⟩ := hyes i hi hs
      exact ⟨b, by rw [getF _ hi, h1], h2⟩
    · rw [getF _ hi]
      unfold kaB
      cases hp : pat g i <;> first | rfl | (rw [hp] at hs; exact absurd rfl hs)
    · have hi := hN.lt i hiN
      obtain ⟨b, h1, h2, h3⟩ := hyes i hi hs
      unfold tgt chz
      rw [getD_range _ _ hi, h1]
      exact h3 hiN
/-! first_choices: level 1; slots 0 game, 1 side, 2 place; calls [] -/
abbrev s_first_choices : Stmt := topS 37
theorem sc_first_choices : FnScope ["game", "side", "place"] ["game", "side"] (defScope s_first_choices) := ⟨rfl, rfl, rfl, by decide +kernel, rfl, by decide +kernel, by decide +kernel⟩
def S_first : List Ar → (PyData → Prop) → Prop := fun as R => ∃ (g : Game) (s : Sd), as = [.dat (eG g), .dat (.str (sdS s))] ∧ g.length ≤ 40 ∧ (∀ i, i < g.length → (pat g i).side ≠ none → (pat g i).tgs ≠ []) ∧ ∀ st : Strat, StOk s g st → R (eSt st)
theorem ok_first_choices {f : Addr} {fd : FuncData} (T : Tx K mg aN aO) (F : Fun K "first_choices" "first_choices" s_first_choices f fd) : FnOk Pg w K mg base CX0 1 f fd ["game", "side"] (spD K S_first) := by
  refine fok F sc_first_choices (fun as R h => ?len) fun cdv A outer s H E hr => ?_
  case len => obtain ⟨_, _, rfl, _⟩ := h; rfl
  have nd := sc_first_choices.nd
  refine ⟨_, (pss_one (ps_ret (pe_lc (own := [("place", 2)]) (g := (gName 2)) (by rfl) nd (ki_list (K := K) rfl (pv 0)) (blkOk_by (N := ["game", "side", "place"]) (sc := defScope s_first_choices) (by decide +kernel)) (fun _ _ _ _ _ => (pg_name (i := 2) nd rfl (Or.inl rfl))) (fun _ _ _ _ _ => pts_nil) (fun _ _ _ _ _ => (pe_ifExp (pt_cmpR op_eq (kx_ixT (K := K) rfl (pv 2) pe_int (fun _ _ => rfl)) (pv 1) (nomark _)) pe_int pe_non))))), fun as R hS => ?_⟩
  obtain ⟨g, s, rfl, hl, hne, hR⟩ := hS
  refine hs_ret (EvN.f ((en_map (enc := ePl) g (fun p => eO (if p.side = some s then some 0 else none)) (ei_list (ev_var rfl)) (by omega) fun p hp => ⟨_, .name 2 (ePl p), ?_⟩).is (?_ : _ = ((List.range g.length).map fun i => if (pat g i).side = some s then some 0 else none).map eO))) (hR _ ⟨by rw [List.length_map, List.length_range], fun i hi hs => ?_, fun i hi hs => ?_⟩)
  · refine (ev_ite (eb_test (ev_side (ev_var rfl) (ev_var rfl))) ev_int ev_non).is ?_
    by_cases h : p.side = some s
    · rw [if_pos h, if_pos (decide_eq_true h)]; rfl
    · rw [if_neg h, if_neg (by rw [decide_eq_true_eq]; exact h)]; rfl
  · rw [List.map_map]
    apply List.ext_getElem?
    intro j
    rw [List.getElem?_map, List.getElem?_map]
    by_cases h : j < g.length
    · rw [List.getElem?_range h, pat_get h]; rfl
    · rw [List.getElem?_eq_none (by omega), List.getElem?_eq_none (by rw [List.length_range]; omega)]; rfl
  · refine ⟨0, by rw [getF _ hi, if_pos hs], List.length_pos_iff.mpr (hne i hi (by rw [hs]; exact fun z => nomatch z))⟩
  · rw [getF _ hi, if_neg hs]
end
end G
end
section
set_option Elab.async false
set_option linter.all false
set_option maxRecDepth 100000
set_option maxHeartbeats 4000000
/-! walks: a strategy made better; two strategies put in -/
namespace G
open PySem PySem.Spec PyProof.Rows L2
local macro_rules | `(tactic| walk_at "ev") => `(tactic| repeat' (first
  | ((with_reducible refine' ev_var ?_); rfl) | ((with_reducible refine' EvD.l (ev_var ?_)); rfl) | ((with_reducible refine' el_bor ?_); rfl) | ((with_reducible refine' EvC.l (ec_var ?_)); rfl) | ((with_reducible refine' evv_var ?_); rfl) | with_reducible exact ev_int | with_reducible exact ev_str | with_reducible exact ev_bl | with_reducible exact ev_non
  | ((with_reducible refine' Tx.evN ?_); assumption) | ((with_reducible refine' Tx.evO ?_); assumption)
  | with_reducible exact ea_nil | with_reducible refine' ea_dat ?_ ?_ | with_reducible refine' ea_bor ?_ ?_ | with_reducible refine' ea_val ?_ ?_
  | with_reducible refine' ev_add ?_ ?_ | with_reducible refine' ev_sub ?_ ?_ | with_reducible refine' ev_mulW ?_ ?_ ?_ | with_reducible refine' ev_neg ?_ | with_reducible refine' ev_cmp ?_ ?_
  | with_reducible refine' ev_q0 ?_ | with_reducible refine' ev_q1 ?_
  | with_reducible refine' ev_k_draw ?_ | with_reducible refine' ev_k_ours ?_ | with_reducible refine' ev_k_theirs ?_ | with_reducible refine' ev_k_reward ?_ | with_reducible refine' ev_k_fin ?_ | with_reducible refine' ev_k_lose ?_
  | with_reducible refine' ev_n_draw ?_ | with_reducible refine' ev_n_ours ?_ | with_reducible refine' ev_n_theirs ?_ | with_reducible refine' ev_n_reward ?_ | with_reducible refine' ev_n_fin ?_ | with_reducible refine' ev_n_lose ?_
  | with_reducible refine' ev_side ?_ ?_ | with_reducible refine' ev_kind ?_
  | with_reducible refine' eb_test ?_ | with_reducible refine' eb_B ?_ | with_reducible refine' ev_int1 ?_ | with_reducible refine' eb_not ?_ | with_reducible refine' eb_or ?_ (fun _ => ?_) | with_reducible refine' eb_and ?_ (fun _ => ?_) | with_reducible refine' ev_t0 ?_ | with_reducible refine' ev_t1 ?_ | with_reducible refine' ev_t2 ?_))
local macro_rules | `(tactic| walk_at "ifT") => `(tactic| (refine' hs_seq (hs_ifT (b := _) ?h ?n ?e); (case h => walk_at "ev"); (case e => rfl)))
local macro_rules | `(tactic| walk_at "ifF") => `(tactic| (refine' hs_seq (hs_ifF (b := _) ?h (hs_next ?n) ?e); (case h => walk_at "ev"); (case e => rfl)))
def wv : Sd → Int
  | .us => 1
  | .them => -1
theorem cmp_btr {s : Sd} {x y : Rat} : decide (0 < cmpQ x y * wv s) = cd (btr s x y) := by
  rw [Bool.eq_iff_iff, decide_eq_true_eq, cd_iff]
  unfold cmpQ
  cases s with
  | us =>
    show _ ↔ y < x
    by_cases h1 : x < y
    · rw [if_pos h1]
      constructor
      · intro h; exact absurd h (by decide)
      · intro h; grind
    · rw [if_neg h1]
      by_cases h2 : y < x
      · rw [if_pos h2]; exact ⟨fun _ => h2, fun _ => by decide⟩
      · rw [if_neg h2]
        exact ⟨fun h => absurd h (by decide), fun h => absurd h h2⟩
  | them =>
    show _ ↔ x < y
    by_cases h1 : x < y
    · rw [if_pos h1]; exact ⟨fun _ => h1, fun _ => by decide⟩
    · rw [if_neg h1]
      by_cases h2 : y < x
      · rw [if_pos h2]
        exact ⟨fun h => absurd h (by decide), fun h => absurd h h1⟩
      · rw [if_neg h2]
        exact ⟨fun h => absurd h (by decide), fun h => absurd h h1⟩
theorem btr_trans {s : Sd} {x y z : Rat} (h1 : btr s x y) (h2 : btr s y z) : btr s x z := by
  cases s
  · show z < x
    have h3 : y < x := h1
    have h4 : z < y := h2
    grind
  · show x < z
    have h3 : x < y := h1
    have h4 : y < z := h2
    grind
theorem btr_irrefl {s : Sd} {x : Rat} : ¬ btr s x x := by
  cases s <;> exact Rat.lt_irrefl
theorem nbtr_trans {s : Sd} {x y z : Rat} (h1 : ¬ btr s x y) (h2 : btr s z y) : ¬ btr s x z := fun h => h1 (btr_trans h h2)
section
variable {Pg : Program} {w : World} {K : PySem.W.Frag} {mg : Str → Option Value} {base : Heap} {aN aO : Addr}
/-! better: level 2; slots 0 game, 1 side, 2 strategy, 3 numbers, 4 found, 5 wanted, 6 place, 7 goals, 8 best, 9 branch, 10 number, 11 order, 12 goal; calls ['places_of 1', 'targets 1', 'compare 1'] -/
abbrev s_better : Stmt := topS 38
theorem sc_better : FnScope ["game", "side", "strategy", "numbers", "found", "wanted", "place", "goals", "best", "branch", "number", "order", "goal"] ["game", "side", "strategy", "numbers"] (defScope s_better) := ⟨rfl, rfl, rfl, by decide +kernel, rfl, by decide +kernel, by decide +kernel⟩
def S_better : List Ar → (PyData → Prop) → Prop := fun as R => ∃ (g : Game) (s : Sd) (st : Strat) (v : Nat → Rat), as = [.dat (eG g), .dat (.str (sdS s)), .dat (eSt st), .dat (eFq g.length v)] ∧ GW g ∧ StOk s g st ∧ (∀ i, i < g.length → Sm 4000 (v i)) ∧ ∀ st' : Strat, BtOk s g st v st' → R (eSt st')
/-- what is known of a place that was looked at -/
structure BtAt (s : Sd) (g : Game) (st : Strat) (v : Nat → Rat) (i b : Nat) : Prop where
  lt : b < (pat g i).tgs.length
  top : ∀ t ∈ (pat g i).tgs, ¬ btr s (v t) (v ((pat g i).tgs.getD b 0))
  up : b ≠ chz st i → btr s (v ((pat g i).tgs.getD b 0)) (v (tgt g st i))
theorem eSt_fun {st : Strat} {n : Nat} (h : st.length = n) : st.map eO = (List.range n).map fun k => eO (st.getD k none) := by
  apply List.ext_getElem?
  intro j
  rw [List.getElem?_map, List.getElem?_map]
  by_cases hj : j < n
  · rw [List.getElem?_range hj, List.getElem?_eq_getElem (by omega)]
    show some (eO st[j]) = some (eO (st.getD j none))
    rw [List.getD_eq_getElem?_getD, List.getElem?_eq_getElem (by omega)]
    rfl
  · rw [List.getElem?_eq_none (by omega), List.getElem?_eq_none (by rw [List.length_range]; omega)]; rfl
theorem ok_better {f : Addr} {fd : FuncData} (T : Tx K mg aN aO) (F : Fun K "better" "better" s_better f fd) (c_places_of : Cal Pg w K mg base 1 "places_of" (spD K S_places_of)) (c_targets : Cal Pg w K mg base 1 "targets" (spD K S_targets)) (c_compare : Cal Pg w K mg base 1 "compare" (spD K S_compare)) : FnOk Pg w K mg base CX0 2 f fd ["game", "side", "strategy", "numbers"] (spD K S_better) := by
  refine fok F sc_better (fun as R h => ?len) fun cdv A outer s H E hr => ?_
  case len => obtain ⟨_, _, _, _, rfl, _⟩ := h; rfl
  have nd := sc_better.nd
  refine ⟨_, (pss_cons (ps_set (i := 4) nd rfl (Or.inl rfl) (kx_list (K := K) rfl (by rfl) T.list (pa_cons (pv 2) pa_nil)))
        (pss_cons (ps_set (i := 5) nd rfl (Or.inl rfl) (pe_ifExp (pt_cmpR op_eq (pv 1) pe_str (nomark _)) pe_int (pe_un un_neg pe_int)))
        (pss_cons (ps_for PassesOwn.never rfl (ki_list (K := K) rfl (pe_c c_places_of hr (by decide) (by rfl) (pa_cons (pv 0) (pa_cons (pv 1) pa_nil)))) (pg_name (i := 6) nd rfl (Or.inl rfl)) (pss_cons (ps_setLc (i := 7) (own := [("goal", 12)]) (g := (gName 12)) (by rfl) nd rfl rfl (sw_true rfl rfl rfl (by decide +kernel)) (ki_list (K := K) rfl (pe_c c_targets hr (by decide) (by rfl) (pa_cons (pv 0) (pa_cons (pv 6) pa_nil)))) (blkOk_by (N := ["game", "side", "strategy", "numbers", "found", "wanted", "place", "goals", "best", "branch", "number", "order", "goal"]) (sc := defScope s_better) (by decide +kernel)) (fun _ _ _ _ _ => (pg_name (i := 12) nd rfl (Or.inl rfl))) (fun _ _ _ _ _ => pts_nil) (fun _ _ _ _ _ => (kx_ixL (K := K) rfl (pv 3) (pv 12) (fun _ _ => rfl))))
        (pss_cons (ps_set (i := 8) nd rfl (Or.inl rfl) (kx_ixL (K := K) rfl (pv 4) (pv 6) (fun _ _ => rfl)))
        (pss_cons (ps_for PassesOwn.never rfl (ki_enum (K := K) rfl (by rfl) T.enumerate (pa_cons (pv 7) pa_nil)) (kg_tup (K := K) (n := 2) rfl rfl (pgs_cons (pg_name (i := 9) nd rfl (Or.inl rfl)) (pgs_cons (pg_name (i := 10) nd rfl (Or.inl rfl)) pgs_nil))) (pss_cons (ps_set (i := 11) nd rfl (Or.inl rfl) (pe_op op_mulW (pe_c c_compare hr (by decide) (by rfl) (pa_cons (pv 10) (pa_cons (kx_ixL (K := K) rfl (pv 7) (pv 8) (fun _ _ => rfl)) pa_nil))) (pv 5)))
        (pss_one (ps_if (pt_cmpR op_gt (pv 11) pe_int (nomark _)) (pss_one (ps_set (i := 8) nd rfl (Or.inl rfl) (pv 9))) pss_nil))))
        (pss_one (ps_asg (pv 8) (pg_sub (pv 4) (pv 6) set_list)))))))
        (pss_one (ps_ret (pv 4)))))), fun as R hS => ?_⟩
  obtain ⟨g, s, st, v, rfl, hg, hst, hsz, hR⟩ := hS
  have hgl := hg.len
  refine hs_seq (hs_asgN (ds := (List.range g.length).map fun k => eO (st.getD k none)) ((en_list (EvD.l (ev_var rfl))).is (eSt_fun hst.len)) ?_)
  refine hs_seq (hs_asg (d := .int (wv s)) ((ev_ite (eb_test (ev_eqStr (ev_var rfl) ev_str)) ev_int (ev_neg ev_int)).is ?_) ?_)
  · cases s
    · rw [if_pos (by decide +kernel)]; rfl
    · rw [if_neg (by decide +kernel)]; rfl
  have hpl : ((List.range g.length).filter fun i => decide (kindS (pat g i) = sdS s)) = (List.range g.length).filter fun i => decide ((pat g i).side = some s) := List.filter_congr fun i _ => kind_side
  refine hs_seq (hs_forM ((List.range g.length).filter fun i => decide ((pat g i).side = some s)) (enc := eN) (fun j ρ => ∃ (sf : Nat → Option Nat) (x6 x7 x8 x9 x10 x11 : Sl), ρ = [.dat (eG g), .dat (.str (sdS s)), .dat (eSt st), .dat (eFq g.length v), .lis ((List.range g.length).map fun k => eO (sf k)), .dat (.int (wv s)), x6, x7, x8, x9, x10, x11, .any] ∧
      (∀ i, i < g.length → i ∉ ((List.range g.length).filter fun i => decide ((pat g i).side = some s)).take j → sf i = st.getD i none) ∧ ∀ i ∈ ((List.range g.length).filter fun i => decide ((pat g i).side = some s)).take j, ∃ b, sf i = some b ∧ BtAt s g st v i b)
    (ei_listM (ev_call (as := [.dat (eG g), .dat (.str (sdS s))]) (by walk_at "ev") fun R' hR' => ⟨g, _, rfl, hgl, by rw [hpl]; exact hR'⟩)) ⟨fun k => st.getD k none, .any, .any, .any, .any, .any, .any, rfl, fun i _ _ => rfl, fun i h => by simp at h⟩ (fun j i ρ hj hρ => ?_) (fun ρ hρ => ?_))
  · obtain ⟨sf, x6, x7, x8, x9, x10, x11, rfl, h1, h2⟩ := hρ
    have him := List.mem_filter.mp (List.mem_of_getElem? hj)
    have hi := List.mem_range.mp him.1
    have hs : (pat g i).side = some s := of_decide_eq_true him.2
    have hnd : ((List.range g.length).filter fun i => decide ((pat g i).side = some s)).Nodup := List.nodup_range.filter _
    have hnt : i ∉ ((List.range g.length).filter fun i => decide ((pat g i).side = some s)).take j := fun z => by
      obtain ⟨k, hk, e⟩ := List.mem_iff_getElem.mp z
      rw [List.length_take] at hk
      rw [List.getElem_take] at e
      have h3 := (List.getElem?_inj (by omega) hnd).mp ((List.getElem?_eq_getElem (by omega)).trans ((congrArg some e).trans hj.symm))
      omega
    obtain ⟨b0, hb0, hb0l⟩ := hst.yes i hi hs
    have hsf : sf i = some b0 := by rw [h1 i hi hnt, List.getD_eq_getElem?_getD, hb0]; rfl
    have hch : chz st i = b0 := by unfold chz; rw [List.getD_eq_getElem?_getD, hb0]; rfl
    have hfew := hg.few i hi
    have hlt := hg.lt i hi
    have gd : ∀ k, k < (pat g i).tgs.length → (pat g i).tgs[k]? = some ((pat g i).tgs.getD k 0) := fun k hk => by rw [List.getD_eq_getElem?_getD, List.getElem?_eq_getElem hk]; rfl
    have gm : ∀ k, k < (pat g i).tgs.length → (pat g i).tgs.getD k 0 ∈ (pat g i).tgs := fun k hk => List.mem_of_getElem? (gd k hk)
    refine hg_name ?_
    refine hs_seq (hs_asgN (ds := (pat g i).tgs.map fun t => num (v t)) (en_map (enc := eN) (pat g i).tgs (fun t => num (v t)) (ei_list (ev_call (as := [.dat (eG g), .dat (eN i)]) (d := eNs (pat g i).tgs) (by walk_at "ev") fun R' hR' => ⟨g, i, rfl, hi, hfew, hR'⟩)) (by omega) fun t ht => ⟨_, .name 12 (eN t), ev_ixF (n := g.length) (f := fun k => num (v k)) (EvD.l (ev_var rfl)) (ev_var rfl) (hlt t ht)⟩) ?_)
    refine hs_seq (hs_asg (d := eN b0) ((ev_ixF (n := g.length) (f := fun k => eO (sf k)) (EvC.l (ec_var rfl)) (ev_var rfl) hi).is (by rw [hsf]; rfl)) ?_)
    refine hs_freeze (i := 7) rfl ?_
    refine hs_seq (hs_forN (pat g i).tgs.length (enc := fun k => .tuple [eN k, num (v ((pat g i).tgs.getD k 0))]) (fun k ρ => ∃ (b : Nat) (x9 x10 x11 : Sl), ρ = [.dat (eG g), .dat (.str (sdS s)), .dat (eSt st), .dat (eFq g.length v), .lis ((List.range g.length).map fun k => eO (sf k)), .dat (.int (wv s)), .dat (eN i), .dat (.list ((pat g i).tgs.map fun t => num (v t))), .dat (eN b), x9, x10, x11, .any] ∧
        b < (pat g i).tgs.length ∧ (∀ k', k' < k → ¬ btr s (v ((pat g i).tgs.getD k' 0)) (v ((pat g i).tgs.getD b 0))) ∧ (b ≠ b0 → btr s (v ((pat g i).tgs.getD b 0)) (v ((pat g i).tgs.getD b0 0))))
      (ei_enumM (fun t => num (v t)) (pat g i).tgs 0 (ev_var rfl)) ⟨b0, x9, x10, x11, rfl, hb0l, fun k' h => absurd h (by omega), fun z => absurd rfl z⟩ (fun k ρ hk hρ => ?_) (fun ρ hρ => ?_))
    · obtain ⟨b, x9, x10, x11, rfl, k1, k2, k3⟩ := hρ
      refine hg_pair ?_
      refine hs_seq (hs_asg (d := .int (cmpQ (v ((pat g i).tgs.getD k 0)) (v ((pat g i).tgs.getD b 0)) * wv s)) (ev_mulW (ev_call (as := [.dat (num (v ((pat g i).tgs.getD k 0))), .dat (num (v ((pat g i).tgs.getD b 0)))]) (d := .int (cmpQ (v ((pat g i).tgs.getD k 0)) (v ((pat g i).tgs.getD b 0)))) (ea_dat (ev_var rfl) (ea_dat (ev_ixM (enc := fun t => num (v t)) (xs := (pat g i).tgs) (k := b) (EvD.l (ev_var rfl)) (ev_var rfl) (gd b k1)) ea_nil)) fun R' hR' => ⟨_, _, rfl, hsz _ (hlt _ (gm k hk)), hsz _ (hlt _ (gm b k1)), hR'⟩) (ev_var rfl) ?_) ?_)
      · unfold cmpQ CMulW
        split
        · cases s <;> decide
        · split <;> cases s <;> decide
      refine hs_if ((eb_test (ev_cmp (ev_var rfl) ev_int)).is cmp_btr) (fun h => ?_) (fun h => hs_next ?_)
      · have hb := cd_iff.mp h
        refine hs_asg (d := eN k) (ev_var rfl) ⟨k, .dat (eN k), .dat (num (v ((pat g i).tgs.getD k 0))), .dat (.int _), rfl, hk, fun k' hk' => ?_, fun hne => ?_⟩
        · by_cases e : k' = k
          · rw [e]; exact btr_irrefl
          · exact nbtr_trans (k2 k' (by omega)) hb
        · by_cases e : b = b0
          · rw [← e]; exact hb
          · exact btr_trans hb (k3 e)
      · have hb : ¬ btr s (v ((pat g i).tgs.getD k 0)) (v ((pat g i).tgs.getD b 0)) := fun z => by
          rw [cd_iff.mpr z] at h; cases h
        refine ⟨b, .dat (eN k), .dat (num (v ((pat g i).tgs.getD k 0))), .dat (.int _), rfl, k1, fun k' hk' => ?_, k3⟩
        by_cases e : k' = k
        · rw [e]; exact hb
        · exact k2 k' (by omega)
    · obtain ⟨b, x9, x10, x11, rfl, k1, k2, k3⟩ := hρ
      refine hs_setIn (i := 4) (k := i) (d := eN b) rfl (ev_var rfl) (ev_var rfl) (by rw [List.length_map, List.length_range]; exact hi) ?_
      refine ⟨fun k => if k = i then some b else sf k, .dat (eN i), .dat (.list ((pat g i).tgs.map fun t => num (v t))), .dat (eN b), x9, x10, x11, ?_, fun k hk hn => ?_, fun k hk => ?_⟩
      · have e : (((List.range g.length).map fun k => eO (sf k)).set i (eN b)) = (List.range g.length).map fun k => eO (if k = i then some b else sf k) := by
          rw [set_range]
          exact List.map_congr_left fun k _ => by split <;> rfl
        rw [← e]
        rfl
      · have hki : k ≠ i := fun e => hn (by rw [List.take_add_one, hj, e]; exact List.mem_append_right _ (List.mem_singleton_self i))
        show (if k = i then some b else sf k) = _
        rw [if_neg hki]
        exact h1 k hk fun z => hn (by rw [List.take_add_one]; exact List.mem_append_left _ z)
      · show ∃ b', (if k = i then some b else sf k) = some b' ∧ _
        by_cases hki : k = i
        · subst hki
          refine ⟨b, if_pos rfl, k1, fun t ht => ?_, fun hne => ?_⟩
          · obtain ⟨m, hm, e⟩ := List.mem_iff_getElem.mp ht
            have h3 := k2 m hm
            rw [List.getD_eq_getElem?_getD, List.getElem?_eq_getElem hm] at h3
            rw [← e]
            exact h3
          · unfold tgt
            rw [hch] at hne ⊢
            exact k3 hne
        · rw [if_neg hki]
          rw [List.take_add_one, hj] at hk
          rcases List.mem_append.mp hk with h | h
          · exact h2 k h
          · exact absurd (by simpa using h) hki
  · obtain ⟨sf, x6, x7, x8, x9, x10, x11, rfl, h1, h2⟩ := hρ
    rw [List.take_length] at h1 h2
    refine hs_retF (i := 4) rfl ?_
    show R _
    rw [← eSt_range]
    have hm : ∀ i, i < g.length → (pat g i).side = some s → ∃ b, sf i = some b ∧ BtAt s g st v i b := fun i hi hs => h2 i (List.mem_filter.mpr ⟨List.mem_range.mpr hi, decide_eq_true hs⟩)
    have hgd : ∀ i, i < g.length → ((List.range g.length).map sf).getD i none = sf i := fun i hi => getD_range _ _ hi
    refine hR _ ⟨⟨by rw [List.length_map, List.length_range], fun i hi hs => ?_, fun i hi hs => ?_⟩, fun i hi hs t ht => ?_, fun i hi hs hne => ?_⟩
    · obtain ⟨b, e, hb⟩ := hm i hi hs
      exact ⟨b, by rw [getF _ hi, e], hb.lt⟩
    · rw [getF _ hi, h1 i hi (fun z => hs (of_decide_eq_true (List.mem_filter.mp z).2)), List.getD_eq_getElem?_getD, hst.no i hi hs]
      rfl
    · obtain ⟨b, e, hb⟩ := hm i hi hs
      unfold tgt chz
      rw [hgd i hi, e]
      exact hb.top t ht
    · obtain ⟨b, e, hb⟩ := hm i hi hs
      obtain ⟨b0, hb0, hb0l⟩ := hst.yes i hi hs
      rw [hgd i hi, e] at hne
      have hch : chz st i = b0 := by unfold chz; rw [List.getD_eq_getElem?_getD, hb0]; rfl
      have hst0 : st.getD i none = some b0 := by rw [List.getD_eq_getElem?_getD, hb0]; rfl
      rw [hst0] at hne
      have h3 := hb.up (by rw [hch]; exact fun z => hne (by rw [z]))
      have e2 : tgt g ((List.range g.length).map sf) i = (pat g i).tgs.getD b 0 := by
        unfold tgt chz
        rw [hgd i hi, e]
        rfl
      rw [e2]
      exact h3
/-! improved: level 3; slots 0 game, 1 ours, 2 numbers; calls ['better 2'] -/
abbrev s_improved : Stmt := topS 39
theorem sc_improved : FnScope ["game", "ours", "numbers"] ["game", "ours", "numbers"] (defScope s_improved) := ⟨rfl, rfl, rfl, by decide +kernel, rfl, by decide +kernel, by decide +kernel⟩
def S_improved : List Ar → (PyData → Prop) → Prop := fun as R => ∃ (g : Game) (st : Strat) (v : Nat → Rat), as = [.dat (eG g), .dat (eSt st), .dat (eFq g.length v)] ∧ GW g ∧ StOk .us g st ∧ (∀ i, i < g.length → Sm 4000 (v i)) ∧ ∀ st' : Strat, BtOk .us g st v st' → R (eSt st')
theorem ok_improved {f : Addr} {fd : FuncData} (T : Tx K mg aN aO) (F : Fun K "improved" "improved" s_improved f fd) (c_better : Cal Pg w K mg base 2 "better" (spD K S_better)) : FnOk Pg w K mg base CX0 3 f fd ["game", "ours", "numbers"] (spD K S_improved) := by
  refine fok F sc_improved (fun as R h => ?len) fun cdv A outer s H E hr => ?_
  case len => obtain ⟨_, _, _, rfl, _⟩ := h; rfl
  have nd := sc_improved.nd
  refine ⟨_, (pss_one (ps_ret (pe_c c_better hr (by decide) (by rfl) (pa_cons (pv 0) (pa_cons pe_str (pa_cons (pv 1) (pa_cons (pv 2) pa_nil))))))), fun as R hS => ?_⟩
  obtain ⟨g, st, v, rfl, hg, hst, hsz, hR⟩ := hS
  refine hs_retR (R := R) (evr_call (as := [.dat (eG g), .dat (.str "ours"), .dat (eSt st), .dat (eFq g.length v)]) (by walk_at "ev") fun R' hR' => ⟨g, .us, st, v, rfl, hg, hst, hsz, fun st' h => hR' _ (hR st' h)⟩) fun d hd => hd
end
end G
end
section
set_option Elab.async false
set_option linter.all false
set_option maxRecDepth 100000
set_option maxHeartbeats 4000000
/-! walks: the chances of two strategies -/
namespace G
open PySem PySem.Spec PyProof.Rows L2
local macro_rules | `(tactic| walk_at "ev") => `(tactic| repeat' (first
  | ((with_reducible refine' ev_var ?_); rfl) | ((with_reducible refine' EvD.l (ev_var ?_)); rfl) | ((with_reducible refine' el_bor ?_); rfl) | ((with_reducible refine' EvC.l (ec_var ?_)); rfl) | ((with_reducible refine' evv_var ?_); rfl) | with_reducible exact ev_int | with_reducible exact ev_str | with_reducible exact ev_bl | with_reducible exact ev_non
  | ((with_reducible refine' Tx.evN ?_); assumption) | ((with_reducible refine' Tx.evO ?_); assumption)
  | with_reducible exact ea_nil | with_reducible refine' ea_dat ?_ ?_ | with_reducible refine' ea_bor ?_ ?_ | with_reducible refine' ea_val ?_ ?_
  | with_reducible refine' ev_add ?_ ?_ | with_reducible refine' ev_sub ?_ ?_ | with_reducible refine' ev_mulW ?_ ?_ ?_ | with_reducible refine' ev_neg ?_ | with_reducible refine' ev_cmp ?_ ?_
  | with_reducible refine' ev_q0 ?_ | with_reducible refine' ev_q1 ?_
  | with_reducible refine' ev_k_draw ?_ | with_reducible refine' ev_k_ours ?_ | with_reducible refine' ev_k_theirs ?_ | with_reducible refine' ev_k_reward ?_ | with_reducible refine' ev_k_fin ?_ | with_reducible refine' ev_k_lose ?_
  | with_reducible refine' ev_n_draw ?_ | with_reducible refine' ev_n_ours ?_ | with_reducible refine' ev_n_theirs ?_ | with_reducible refine' ev_n_reward ?_ | with_reducible refine' ev_n_fin ?_ | with_reducible refine' ev_n_lose ?_
  | with_reducible refine' ev_side ?_ ?_ | with_reducible refine' ev_kind ?_
  | with_reducible refine' eb_test ?_ | with_reducible refine' eb_B ?_ | with_reducible refine' ev_int1 ?_ | with_reducible refine' eb_not ?_ | with_reducible refine' eb_or ?_ (fun _ => ?_) | with_reducible refine' eb_and ?_ (fun _ => ?_) | with_reducible refine' ev_t0 ?_ | with_reducible refine' ev_t1 ?_ | with_reducible refine' ev_t2 ?_))
local macro_rules | `(tactic| walk_at "ifT") => `(tactic| (refine' hs_seq (hs_ifT (b := _) ?h ?n ?e); (case h => walk_at "ev"); (case e => rfl)))
local macro_rules | `(tactic| walk_at "ifF") => `(tactic| (refine' hs_seq (hs_ifF (b := _) ?h (hs_next ?n) ?e); (case h => walk_at "ev"); (case e => rfl)))
section
variable {Pg : Program} {w : World} {K : PySem.W.Frag} {mg : Str → Option Value} {base : Heap} {aN aO : Addr}
/-! finishing: level 9; slots 0 game, 1 ours, 2 theirs, 3 chain; calls ['with_strategy 2', 'chances 8', 'places_of 1'] -/
abbrev s_finishing : Stmt := topS 40
theorem sc_finishing : FnScope ["game", "ours", "theirs", "chain"] ["game", "ours", "theirs"] (defScope s_finishing) := ⟨rfl, rfl, rfl, by decide +kernel, rfl, by decide +kernel, by decide +kernel⟩
def S_finishing : List Ar → (PyData → Prop) → Prop := fun as R => ∃ (g : Game) (so st : Strat), as = [.dat (eG g), .dat (eSt so), .dat (eSt st)] ∧ g.length ≤ 40 ∧ StOk .us g so ∧ StOk .them g st ∧ ChOk (ch2 g so st) ∧ ∀ f : Nat → Rat, CvOk (ch2 g so st) f → R (eFq g.length f)
theorem ok_finishing {f : Addr} {fd : FuncData} (T : Tx K mg aN aO) (F : Fun K "finishing" "finishing" s_finishing f fd) (c_with_strategy : Cal Pg w K mg base 2 "with_strategy" (spD K S_with_strategy)) (c_chances : Cal Pg w K mg base 8 "chances" (spD K S_chances)) (c_places_of : Cal Pg w K mg base 1 "places_of" (spD K S_places_of)) : FnOk Pg w K mg base CX0 9 f fd ["game", "ours", "theirs"] (spD K S_finishing) := by
  refine fok F sc_finishing (fun as R h => ?len) fun cdv A outer s H E hr => ?_
  case len => obtain ⟨_, _, _, rfl, _⟩ := h; rfl
  have nd := sc_finishing.nd
  refine ⟨_, (pss_cons (ps_set (i := 3) nd rfl (Or.inl rfl) (pe_c c_with_strategy hr (by decide) (by rfl) (pa_cons (pe_c c_with_strategy hr (by decide) (by rfl) (pa_cons (pv 0) (pa_cons pe_str (pa_cons (pv 1) pa_nil)))) (pa_cons pe_str (pa_cons (pv 2) pa_nil)))))
        (pss_one (ps_ret (pe_c c_chances hr (by decide) (by rfl) (pa_cons (pv 3) (pa_cons (pe_c c_places_of hr (by decide) (by rfl) (pa_cons (pv 3) (pa_cons pe_str pa_nil))) pa_nil)))))), fun as R hS => ?_⟩
  obtain ⟨g, so, st, rfl, hl, hso, hst, hch, hR⟩ := hS
  refine hs_seq (hs_asg (d := eG (ch2 g so st)) (ev_call (as := [.dat (eG (put .us g so)), .dat (.str "theirs"), .dat (eSt st)]) (ea_dat (ev_call (as := [.dat (eG g), .dat (.str "ours"), .dat (eSt so)]) (by walk_at "ev") fun R' hR' => ⟨g, .us, so, rfl, hl, hso, hR'⟩) (by walk_at "ev")) fun R' hR' => ⟨put .us g so, .them, st, rfl, by rw [put_len]; exact hl, stok_put (by decide) hst, hR'⟩) ?_)
  have hfin : ((List.range (ch2 g so st).length).filter fun i => decide (kindS (pat (ch2 g so st) i) = "finish")) = fins (ch2 g so st) := List.filter_congr fun i _ => by rw [kd_fin, is_fin_eq]
  refine hs_retR (R := R) (evr_call (as := [.dat (eG (ch2 g so st)), .dat (eNs (fins (ch2 g so st)))]) (ea_dat (ev_var rfl) (ea_dat (ev_call (as := [.dat (eG (ch2 g so st)), .dat (.str "finish")]) (by walk_at "ev") fun R' hR' => ⟨_, _, rfl, by rw [ch2_len]; exact hl, by rw [hfin]; exact hR'⟩) ea_nil)) fun R' hR' => ⟨_, rfl, hch, fun f hf => hR' _ (by rw [ch2_len]; exact hR f hf)⟩) fun d hd => hd
end
end G
end
section
set_option Elab.async false
set_option linter.all false
set_option maxRecDepth 100000
set_option maxHeartbeats 4000000
set_option exponentiation.threshold 2000
/-! walks: the least and the greatest -/
namespace G
open PySem PySem.Spec PyProof.Rows L2
local macro_rules | `(tactic| walk_at "ev") => `(tactic| repeat' (first
  | ((with_reducible refine' ev_var ?_); rfl) | ((with_reducible refine' EvD.l (ev_var ?_)); rfl) | ((with_reducible refine' el_bor ?_); rfl) | ((with_reducible refine' EvC.l (ec_var ?_)); rfl) | ((with_reducible refine' evv_var ?_); rfl) | with_reducible exact ev_int | with_reducible exact ev_str | with_reducible exact ev_bl | with_reducible exact ev_non
  | ((with_reducible refine' Tx.evN ?_); assumption) | ((with_reducible refine' Tx.evO ?_); assumption)
  | with_reducible exact ea_nil | with_reducible refine' ea_dat ?_ ?_ | with_reducible refine' ea_bor ?_ ?_ | with_reducible refine' ea_val ?_ ?_
  | with_reducible refine' ev_add ?_ ?_ | with_reducible refine' ev_sub ?_ ?_ | with_reducible refine' ev_mulW ?_ ?_ ?_ | with_reducible refine' ev_neg ?_ | with_reducible refine' ev_cmp ?_ ?_
  | with_reducible refine' ev_q0 ?_ | with_reducible refine' ev_q1 ?_
  | with_reducible refine' ev_k_draw ?_ | with_reducible refine' ev_k_ours ?_ | with_reducible refine' ev_k_theirs ?_ | with_reducible refine' ev_k_reward ?_ | with_reducible refine' ev_k_fin ?_ | with_reducible refine' ev_k_lose ?_
  | with_reducible refine' ev_n_draw ?_ | with_reducible refine' ev_n_ours ?_ | with_reducible refine' ev_n_theirs ?_ | with_reducible refine' ev_n_reward ?_ | with_reducible refine' ev_n_fin ?_ | with_reducible refine' ev_n_lose ?_
  | with_reducible refine' ev_side ?_ ?_ | with_reducible refine' ev_kind ?_
  | with_reducible refine' eb_test ?_ | with_reducible refine' eb_B ?_ | with_reducible refine' ev_int1 ?_ | with_reducible refine' eb_not ?_ | with_reducible refine' eb_or ?_ (fun _ => ?_) | with_reducible refine' eb_and ?_ (fun _ => ?_) | with_reducible refine' ev_t0 ?_ | with_reducible refine' ev_t1 ?_ | with_reducible refine' ev_t2 ?_))
local macro_rules | `(tactic| walk_at "ifT") => `(tactic| (refine' hs_seq (hs_ifT (b := _) ?h ?n ?e); (case h => walk_at "ev"); (case e => rfl)))
local macro_rules | `(tactic| walk_at "ifF") => `(tactic| (refine' hs_seq (hs_ifF (b := _) ?h (hs_next ?n) ?e); (case h => walk_at "ev"); (case e => rfl)))
theorem gok_few {g : Game} (hg : GOk g) {i : Nat} (hi : i < g.length) : (pat g i).tgs.length ≤ 6 := by
  have := hg.pl i hi
  cases hp : pat g i with
  | draw bs => rw [hp] at this; show (bs.map (·.2)).length ≤ 6; rw [List.length_map]; exact this.2.1
  | ours ts => rw [hp] at this; exact this.2.1
  | theirs ts => rw [hp] at this; exact this.2.1
  | reward r x => show 1 ≤ 6; decide
  | fin => show 0 ≤ 6; decide
  | lose => show 0 ≤ 6; decide
theorem gok_gw {g : Game} (hg : GOk g) : GW g := ⟨Nat.le_trans hg.len (by decide), fun i hi => gok_few hg hi, fun i hi t ht => tg_lt hg hi ht⟩
theorem gok_ne {g : Game} (hg : GOk g) {i : Nat} (hi : i < g.length) (hs : (pat g i).side ≠ none) : (pat g i).tgs ≠ [] := by
  have := hg.pl i hi
  cases hp : pat g i with
  | ours ts => rw [hp] at this; exact this.1
  | theirs ts => rw [hp] at this; exact this.1
  | draw bs => rw [hp] at hs; exact absurd rfl hs
  | reward r x => rw [hp] at hs; exact absurd rfl hs
  | fin => rw [hp] at hs; exact absurd rfl hs
  | lose => rw [hp] at hs; exact absurd rfl hs
theorem gw_put {s : Sd} {g : Game} {st : Strat} (hg : GW g) (h : StOk s g st) : GW (put s g st) := by
  refine ⟨by rw [put_len]; exact hg.len, fun i hi => ?_, fun i hi t ht => ?_⟩
  · rw [put_len] at hi
    by_cases hs : (pat g i).side = some s
    · rw [put_in hi hs]; show 1 ≤ 6; decide
    · rw [put_out hi hs]; exact hg.few i hi
  · rw [put_len] at hi ⊢
    by_cases hs : (pat g i).side = some s
    · rw [put_in hi hs] at ht
      rw [List.mem_singleton.mp ht]
      exact hg.lt i hi _ (tgt_mem h hi hs)
    · rw [put_out hi hs] at ht; exact hg.lt i hi t ht
theorem put_ne {s : Sd} {g : Game} {st : Strat} (hg : GOk g) {i : Nat} (hi : i < (put s g st).length) (hn : (pat (put s g st) i).side ≠ none) : (pat (put s g st) i).tgs ≠ [] := by
  rw [put_len] at hi
  by_cases hs : (pat g i).side = some s
  · rw [put_in hi hs]; exact fun z => by cases z
  · rw [put_out hi hs] at hn ⊢; exact gok_ne hg hi hn
theorem isI_take {q : Nat} {n : Nat} {y : Nat → Rat} {bs : List (Rat × Nat)} (h : BrOk n bs) (hq : Den q bs) (h0 : ∀ i, 0 ≤ y i ∧ y i ≤ 1 ∧ isI (y i)) (j : Nat) : Sm 400 (mean (bs.take j) y) := by
  have h1 : ∀ b ∈ bs.take j, b ∈ bs := fun b hb => List.mem_of_mem_take hb
  have hi := isI_mean (q := q) (n := 0) (y := y) (bs := bs.take j) (fun b hb => hq.2.2 b (h1 b hb)) fun b _ => (h0 b.2).2.2
  have a1 := mean_le (y := fun _ => 0) (z := y) (bs := bs.take j) (fun b hb => h.nn b (h1 b hb)) fun b _ => (h0 b.2).1
  have a2 : mean (bs.take j) y ≤ mean bs y := by
    have key : ∀ (l : List (Rat × Nat)) (j : Nat), (∀ b ∈ l, 0 ≤ b.1) → mean (l.take j) y ≤ mean l y := fun l => by
      induction l with
      | nil => intro j _; rw [List.take_nil]; exact Rat.le_refl
      | cons b r ih =>
        intro j hl
        cases j with
        | zero =>
          rw [List.take_zero]
          have := mean_le (y := fun _ => 0) (z := y) (bs := b :: r) hl fun b _ => (h0 b.2).1
          rw [mean_const] at this
          rw [mean_nil]
          grind
        | succ j =>
          rw [List.take_succ_cons, mean_cons, mean_cons]
          have := ih j fun c hc => hl c (List.mem_cons_of_mem _ hc)
          grind
    exact key bs j h.nn
  have a3 := (mean01 h (y := y) fun b _ => ⟨(h0 b.2).1, (h0 b.2).2.1⟩).2
  rw [mean_const] at a1
  obtain ⟨s1, s2⟩ := szq_of (x := mean (bs.take j) y) (B := 1) hq.1 hi (by grind) (by show _ ≤ (1 : Rat); grind)
  have h18 := hq.2.1
  have hp : (18 : Nat) < 2 ^ 400 := Nat.lt_trans (by decide : 18 < 2 ^ 5) (Nat.pow_lt_pow_right (by decide) (by decide))
  exact ⟨by omega, by omega⟩
theorem sm_67 {x : Rat} {b : Nat} (h : x.num.natAbs < 2 ^ 67 ∧ x.den < 2 ^ 67) (hb : 67 ≤ b) : Sm b x := Sm.mono (a := 67) h hb
theorem chok_ch2 {g : Game} {so st : Strat} (hg : GOk g) (hso : StOk .us g so) (hst : StOk .them g st) : ChOk (ch2 g so st) := by
  have hc := ck_ch2 hg hso hst
  have hgw : GW (ch2 g so st) := gw_put (gw_put (gok_gw hg) hso) (stok_put (by decide) hst)
  have h := uk_en (ch2 g so st)
  have hq := En.sq hc h
  have hlt : ∀ i, i < (ch2 g so st).length → ∀ b ∈ (pat (ch2 g so st) i).br, b.2 < (ch2 g so st).length := fun i hi b hb => hgw.lt i hi b.2 (by rw [hc.tg i hi]; exact List.mem_map.mpr ⟨b, hb, rfl⟩)
  refine ⟨hgw, hlt, ⟨fun i hi j k hk => ?_, fun i hi j => ?_, fun i hi b hb => ?_, fun i hi => ?_, fun i hi => (En.br hc h hi).few⟩, ⟨Nat.le_trans hq.few (by decide), fun t ht => ?_, fun t ht i hi k hk => hq.sz ht hi k⟩⟩
  · obtain ⟨q, hd⟩ := (En.br hc h hi).den
    rw [psum_mean]
    exact isI_take (En.br hc h hi) hd (fun x => by split; exact ⟨by decide, by decide, isI.one⟩; exact ⟨by decide, by decide, isI.zero⟩) j
  · obtain ⟨q, hd⟩ := (En.br hc h hi).den
    rw [osum_mean]
    exact isI_take (En.br hc h hi) hd (fun x => by split; exact ⟨by decide, by decide, isI.zero⟩; exact kn01 _ x) j
  · obtain ⟨q, hd⟩ := (En.br hc h hi).den
    have hbr := En.br hc h hi
    obtain ⟨k, hk⟩ := hd.2.2 b hb
    obtain ⟨s1, s2⟩ := szq_of (x := b.1) (B := 1) hd.1 ⟨k, by rw [Rat.mul_comm, hk, Rat.intCast_natCast]⟩ (hbr.nn b hb) (by show _ ≤ (1 : Rat); exact hbr.ch1 hb)
    have h18 := hd.2.1
    have hp : (18 : Nat) < 2 ^ 400 := Nat.lt_trans (by decide : 18 < 2 ^ 5) (Nat.pow_lt_pow_right (by decide) (by decide))
    exact ⟨by omega, by omega⟩
  · unfold kn
    split
    · exact Sm.one.mono (by decide)
    · exact Sm.zero.mono (by decide)
  · have := (hq.sy.stage t (by omega)).piv (t := t) ht
    grind
theorem val_sm {g : Game} {so st : Strat} (hg : GOk g) (hso : StOk .us g so) (hst : StOk .them g st) {v : Nat → Rat} (hv : IsVal (ch2 g so st) v) {b : Nat} (hb : 67 ≤ b) : ∀ i, i < g.length → Sm b (v i) := fun i hi => sm_67 (hv.sz (ck_ch2 hg hso hst) (by rw [ch2_len]; exact hi)) hb
section
variable {Pg : Program} {w : World} {K : PySem.W.Frag} {mg : Str → Option Value} {base : Heap} {aN aO : Addr}
/-- the numbers of a game that the search for the least gives -/
def LeastOk (g : Game) (so : Strat) (v : Nat → Rat) (st : Strat) : Prop := StOk .them g st ∧ IsVal (ch2 g so st) v ∧ ∀ (st' : Strat) (h : Nat → Rat), StOk .them g st' → IsVal (ch2 g so st') h → ∀ i, i < g.length → v i ≤ h i
def GreatOk (g : Game) (st : Strat) (v : Nat → Rat) (so : Strat) : Prop := StOk .us g so ∧ IsVal (ch2 g so st) v ∧ ∀ (so' : Strat) (h : Nat → Rat), StOk .us g so' → IsVal (ch2 g so' st) h → ∀ i, i < g.length → h i ≤ v i
theorem evr_fin {E : XK} {ρ : List Sl} {ta tb tc : TE} {g : Game} {so st : Strat} (hg : GOk g) (hso : StOk .us g so) (hst : StOk .them g st) (ha : EvD K w ta ρ (eG g)) (hb : EvD K w tb ρ (eSt so)) (hc : EvD K w tc ρ (eSt st)) :
    EvR K w (tCall (spD K S_finishing) [] E (tCons ta (tCons tb (tCons tc tNil)))) ρ fun d => ∃ v, d = eFq g.length v ∧ IsVal (ch2 g so st) v :=
  evr_call (as := [.dat (eG g), .dat (eSt so), .dat (eSt st)]) (ea_dat ha (ea_dat hb (ea_dat hc ea_nil))) fun R' hR' => ⟨g, so, st, rfl, Nat.le_trans hg.len (by decide), hso, hst, chok_ch2 hg hso hst, fun f hf => hR' _ ⟨f, rfl, cv_isval (ck_ch2 hg hso hst) hf⟩⟩
theorem evr_bet {E : XK} {ρ : List Sl} {ta tb tc : TE} {g : Game} {so st : Strat} {v : Nat → Rat} (hg : GOk g) (hso : StOk .us g so) (hst : StOk .them g st) (hv : IsVal (ch2 g so st) v) (ha : EvD K w ta ρ (eG g)) (hb : EvD K w tb ρ (eSt st)) (hc : EvD K w tc ρ (eFq g.length v)) :
    EvR K w (tCall (spD K S_better) [] E (tCons ta (tCons (tC (.str "theirs")) (tCons tb (tCons tc tNil))))) ρ fun d => ∃ st', d = eSt st' ∧ BtOk .them g st v st' :=
  evr_call (as := [.dat (eG g), .dat (.str "theirs"), .dat (eSt st), .dat (eFq g.length v)]) (ea_dat ha (ea_dat ev_str (ea_dat hb (ea_dat hc ea_nil)))) fun R' hR' => ⟨g, .them, st, v, rfl, gok_gw hg, hst, val_sm hg hso hst hv (by decide), fun st' h => hR' _ ⟨st', rfl, h⟩⟩
theorem evr_imp {E : XK} {ρ : List Sl} {ta tb tc : TE} {g : Game} {so st : Strat} {v : Nat → Rat} (hg : GOk g) (hso : StOk .us g so) (hst : StOk .them g st) (hv : IsVal (ch2 g so st) v) (ha : EvD K w ta ρ (eG g)) (hb : EvD K w tb ρ (eSt so)) (hc : EvD K w tc ρ (eFq g.length v)) :
    EvR K w (tCall (spD K S_improved) [] E (tCons ta (tCons tb (tCons tc tNil)))) ρ fun d => ∃ so', d = eSt so' ∧ BtOk .us g so v so' :=
  evr_call (as := [.dat (eG g), .dat (eSt so), .dat (eFq g.length v)]) (ea_dat ha (ea_dat hb (ea_dat hc ea_nil))) fun R' hR' => ⟨g, so, v, rfl, gok_gw hg, hso, val_sm hg hso hst hv (by decide), fun so' h => hR' _ ⟨so', rfl, h⟩⟩
/-! least_against: level 10; slots 0 game, 1 ours, 2 theirs, 3 numbers, 4 other; calls ['keeping_away 8', 'with_strategy 2', 'finishing 9', 'better 2'] -/
abbrev s_least_against : Stmt := topS 41
theorem sc_least_against : FnScope ["game", "ours", "theirs", "numbers", "other"] ["game", "ours"] (defScope s_least_against) := ⟨rfl, rfl, rfl, by decide +kernel, rfl, by decide +kernel, by decide +kernel⟩
def S_least : List Ar → (PyData → Prop) → Prop := fun as R => ∃ (g : Game) (so : Strat), as = [.dat (eG g), .dat (eSt so)] ∧ GOk g ∧ StOk .us g so ∧ ∀ (v : Nat → Rat) (st : Strat), LeastOk g so v st → R (.tuple [eFq g.length v, eSt st])
theorem ok_least_against {f : Addr} {fd : FuncData} (T : Tx K mg aN aO) (F : Fun K "least_against" "least_against" s_least_against f fd) (c_keeping_away : Cal Pg w K mg base 8 "keeping_away" (spD K S_keeping)) (c_with_strategy : Cal Pg w K mg base 2 "with_strategy" (spD K S_with_strategy)) (c_finishing : Cal Pg w K mg base 9 "finishing" (spD K S_finishing)) (c_better : Cal Pg w K mg base 2 "better" (spD K S_better)) : FnOk Pg w K mg base CX0 10 f fd ["game", "ours"] (spD K S_least) := by
  refine fok F sc_least_against (fun as R h => ?len) fun cdv A outer s H E hr => ?_
  case len => obtain ⟨_, _, rfl, _⟩ := h; rfl
  have nd := sc_least_against.nd
  refine ⟨_, (pss_cons (ps_set (i := 2) nd rfl (Or.inl rfl) (pe_c c_keeping_away hr (by decide) (by rfl) (pa_cons (pe_c c_with_strategy hr (by decide) (by rfl) (pa_cons (pv 0) (pa_cons pe_str (pa_cons (pv 1) pa_nil)))) pa_nil)))
        (pss_cons (ps_set (i := 3) nd rfl (Or.inl rfl) (pe_c c_finishing hr (by decide) (by rfl) (pa_cons (pv 0) (pa_cons (pv 1) (pa_cons (pv 2) pa_nil)))))
        (pss_cons (ps_set (i := 4) nd rfl (Or.inl rfl) (pe_c c_better hr (by decide) (by rfl) (pa_cons (pv 0) (pa_cons pe_str (pa_cons (pv 2) (pa_cons (pv 3) pa_nil))))))
        (pss_cons (ps_while PassesOwn.never (kt_neD (K := K) rfl hr (pv 4) (pv 2)) (pss_cons (ps_set (i := 2) nd rfl (Or.inl rfl) (pv 4))
        (pss_cons (ps_set (i := 3) nd rfl (Or.inl rfl) (pe_c c_finishing hr (by decide) (by rfl) (pa_cons (pv 0) (pa_cons (pv 1) (pa_cons (pv 2) pa_nil)))))
        (pss_one (ps_set (i := 4) nd rfl (Or.inl rfl) (pe_c c_better hr (by decide) (by rfl) (pa_cons (pv 0) (pa_cons pe_str (pa_cons (pv 2) (pa_cons (pv 3) pa_nil))))))))))
        (pss_one (ps_ret (pe_tup (pa_cons (pv 3) (pa_cons (pv 2) pa_nil))))))))), fun as R hS => ?_⟩
  obtain ⟨g, so, rfl, hg, hso, hR⟩ := hS
  refine hs_seq (hs_asgR (R := fun d => ∃ (N : List Nat) (st : Strat), d = eSt st ∧ NcOk (put .us g so) N ∧ StOk .them g st ∧ ∀ i ∈ N, (pat (put .us g so) i).side = some .them → tgt (put .us g so) st i ∈ N) (evr_call (as := [.dat (eG (put .us g so))]) (ea_dat (ev_call (as := [.dat (eG g), .dat (.str "ours"), .dat (eSt so)]) (by walk_at "ev") fun R' hR' => ⟨g, .us, so, rfl, Nat.le_trans hg.len (by decide), hso, hR'⟩) ea_nil) fun R' hR' =>
    ⟨put .us g so, rfl, gw_put (gok_gw hg) hso, fun i hi hn => put_ne hg hi hn, fun N st h1 h2 h3 => hR' _ ⟨N, st, rfl, h1, stok_unput (by decide) h2, h3⟩⟩) fun d hd => ?_)
  obtain ⟨N, st0, rfl, hN, hst0, hk⟩ := hd
  refine hs_seq (hs_asgR (evr_fin hg hso hst0 (ev_var rfl) (ev_var rfl) (ev_var rfl)) fun d hd => ?_)
  obtain ⟨v0, rfl, hv0⟩ := hd
  refine hs_seq (hs_asgR (evr_bet hg hso hst0 hv0 (ev_var rfl) (ev_var rfl) (ev_var rfl)) fun d hd => ?_)
  obtain ⟨st1, rfl, hb1⟩ := hd
  refine hs_seq (hs_while (fun m ρ => ∃ (st st' : Strat) (v : Nat → Rat), ρ = [.dat (eG g), .dat (eSt so), .dat (eSt st), .dat (eFq g.length v), .dat (eSt st')] ∧ m = rkT g so v ∧ StOk .them g st ∧ IsVal (ch2 g so st) v ∧ BtOk .them g st v st' ∧ ∀ i ∈ N, v i = 0) _ ⟨st0, st1, v0, rfl, rfl, hst0, hv0, hb1, away_zero hg hso hst0 hN hk hv0⟩ fun m ρ hρ => ?_)
  obtain ⟨st, st', v, rfl, hm, hst, hv, hb, hz⟩ := hρ
  refine ⟨_, eb_test ((ev_neD (ev_var rfl) (ev_var rfl) (shaped_eSt _) (shaped_eSt _)).is (by rw [eqv_eSt])), fun h => ?_, fun h => ?_⟩
  · have hne : st' ≠ st := fun z => by
      rw [decide_eq_true z] at h; cases h
    refine hs_seq (hs_asg (ev_var rfl) ?_)
    refine hs_seq (hs_asgR (evr_fin hg hso hb.ok (ev_var rfl) (ev_var rfl) (ev_var rfl)) fun d hd => ?_)
    obtain ⟨v2, rfl, hv2⟩ := hd
    refine hs_asgR (evr_bet hg hso hb.ok hv2 (ev_var rfl) (ev_var rfl) (ev_var rfl)) fun d hd => ?_
    obtain ⟨st2, rfl, hb2⟩ := hd
    have hle := them_le hg hso hst hb.ok hv hv2 hb
    refine ⟨rkT g so v2, ?_, st', st2, v2, rfl, rfl, hb.ok, hv2, hb2, fun i hi => ?_⟩
    · rw [hm]
      exact rkT_lt hg hso hb.ok hv2 (sg_lt hle (them_lt hg hso hst hb.ok hv hv2 hb hne))
    · have hil : i < g.length := by have := hN.lt i hi; rw [put_len] at this; exact this
      have a1 := hle i hil
      have a2 := hv2.ge0 (ck_ch2 hg hso hb.ok) (i := i) (by rw [ch2_len]; exact hil)
      rw [hz i hi] at a1
      grind
  · have he : st' = st := by
      refine Classical.byContradiction fun z => ?_
      rw [decide_eq_false z] at h; cases h
    subst he
    refine hs_ret (ev_tup (ds := [_, _]) (ea_dat (ev_var rfl) (ea_dat (ev_var rfl) ea_nil)) (by show 2 ≤ 100000; decide)) (hR v st' ⟨hst, hv, fun st2 h2 hst2 hv2 => them_least hg hso hst hst2 hv hv2 hb hN hz⟩)
/-! greatest_against: level 10; slots 0 game, 1 theirs, 2 ours, 3 numbers, 4 other; calls ['first_choices 1', 'finishing 9', 'improved 3'] -/
abbrev s_greatest_against : Stmt := topS 42
theorem sc_greatest_against : FnScope ["game", "theirs", "ours", "numbers", "other"] ["game", "theirs"] (defScope s_greatest_against) := ⟨rfl, rfl, rfl, by decide +kernel, rfl, by decide +kernel, by decide +kernel⟩
def S_greatest : List Ar → (PyData → Prop) → Prop := fun as R => ∃ (g : Game) (st : Strat), as = [.dat (eG g), .dat (eSt st)] ∧ GOk g ∧ StOk .them g st ∧ ∀ (v : Nat → Rat) (so : Strat), GreatOk g st v so → R (.tuple [eFq g.length v, eSt so])
theorem ok_greatest_against {f : Addr} {fd : FuncData} (T : Tx K mg aN aO) (F : Fun K "greatest_against" "greatest_against" s_greatest_against f fd) (c_first_choices : Cal Pg w K mg base 1 "first_choices" (spD K S_first)) (c_finishing : Cal Pg w K mg base 9 "finishing" (spD K S_finishing)) (c_improved : Cal Pg w K mg base 3 "improved" (spD K S_improved)) : FnOk Pg w K mg base CX0 10 f fd ["game", "theirs"] (spD K S_greatest) := by
  refine fok F sc_greatest_against (fun as R h => ?len) fun cdv A outer s H E hr => ?_
  case len => obtain ⟨_, _, rfl, _⟩ := h; rfl
  have nd := sc_greatest_against.nd
  refine ⟨_, (pss_cons (ps_set (i := 2) nd rfl (Or.inl rfl) (pe_c c_first_choices hr (by decide) (by rfl) (pa_cons (pv 0) (pa_cons pe_str pa_nil))))
        (pss_cons (ps_set (i := 3) nd rfl (Or.inl rfl) (pe_c c_finishing hr (by decide) (by rfl) (pa_cons (pv 0) (pa_cons (pv 2) (pa_cons (pv 1) pa_nil)))))
        (pss_cons (ps_set (i := 4) nd rfl (Or.inl rfl) (pe_c c_improved hr (by decide) (by rfl) (pa_cons (pv 0) (pa_cons (pv 2) (pa_cons (pv 3) pa_nil)))))
        (pss_cons (ps_while PassesOwn.never (kt_neD (K := K) rfl hr (pv 4) (pv 2)) (pss_cons (ps_set (i := 2) nd rfl (Or.inl rfl) (pv 4))
        (pss_cons (ps_set (i := 3) nd rfl (Or.inl rfl) (pe_c c_finishing hr (by decide) (by rfl) (pa_cons (pv 0) (pa_cons (pv 2) (pa_cons (pv 1) pa_nil)))))
        (pss_one (ps_set (i := 4) nd rfl (Or.inl rfl) (pe_c c_improved hr (by decide) (by rfl) (pa_cons (pv 0) (pa_cons (pv 2) (pa_cons (pv 3) pa_nil)))))))))
        (pss_one (ps_ret (pe_tup (pa_cons (pv 3) (pa_cons (pv 2) pa_nil))))))))), fun as R hS => ?_⟩
  obtain ⟨g, st, rfl, hg, hst, hR⟩ := hS
  refine hs_seq (hs_asgR (R := fun d => ∃ (so : Strat), d = eSt so ∧ StOk .us g so) (evr_call (as := [.dat (eG g), .dat (.str "ours")]) (by walk_at "ev") fun R' hR' =>
    ⟨g, .us, rfl, Nat.le_trans hg.len (by decide), fun i hi hn => gok_ne hg hi hn, fun so h => hR' _ ⟨so, rfl, h⟩⟩) fun d hd => ?_)
  obtain ⟨so0, rfl, hso0⟩ := hd
  refine hs_seq (hs_asgR (evr_fin hg hso0 hst (ev_var rfl) (ev_var rfl) (ev_var rfl)) fun d hd => ?_)
  obtain ⟨v0, rfl, hv0⟩ := hd
  refine hs_seq (hs_asgR (evr_imp hg hso0 hst hv0 (ev_var rfl) (ev_var rfl) (ev_var rfl)) fun d hd => ?_)
  obtain ⟨so1, rfl, hb1⟩ := hd
  refine hs_seq (hs_while (fun m ρ => ∃ (so so' : Strat) (v : Nat → Rat), ρ = [.dat (eG g), .dat (eSt st), .dat (eSt so), .dat (eFq g.length v), .dat (eSt so')] ∧ m = rkU g st v ∧ StOk .us g so ∧ IsVal (ch2 g so st) v ∧ BtOk .us g so v so') _ ⟨so0, so1, v0, rfl, rfl, hso0, hv0, hb1⟩ fun m ρ hρ => ?_)
  obtain ⟨so, so', v, rfl, hm, hso, hv, hb⟩ := hρ
  refine ⟨_, eb_test ((ev_neD (ev_var rfl) (ev_var rfl) (shaped_eSt _) (shaped_eSt _)).is (by rw [eqv_eSt])), fun h => ?_, fun h => ?_⟩
  · have hne : so' ≠ so := fun z => by
      rw [decide_eq_true z] at h; cases h
    refine hs_seq (hs_asg (ev_var rfl) ?_)
    refine hs_seq (hs_asgR (evr_fin hg hb.ok hst (ev_var rfl) (ev_var rfl) (ev_var rfl)) fun d hd => ?_)
    obtain ⟨v2, rfl, hv2⟩ := hd
    refine hs_asgR (evr_imp hg hb.ok hst hv2 (ev_var rfl) (ev_var rfl) (ev_var rfl)) fun d hd => ?_
    obtain ⟨so2, rfl, hb2⟩ := hd
    have hle := us_le hg hso hb.ok hst hv hv2 hb
    refine ⟨rkU g st v2, ?_, so', so2, v2, rfl, rfl, hb.ok, hv2, hb2⟩
    rw [hm]
    exact rkU_lt hg hst hb.ok hv2 (sg_lt hle (us_lt hg hso hb.ok hst hv hv2 hb hne))
  · have he : so' = so := by
      refine Classical.byContradiction fun z => ?_
      rw [decide_eq_false z] at h; cases h
    subst he
    refine hs_ret (ev_tup (ds := [_, _]) (ea_dat (ev_var rfl) (ea_dat (ev_var rfl) ea_nil)) (by show 2 ≤ 100000; decide)) (hR v so' ⟨hso, hv, fun so2 h2 hso2 hv2 => us_greatest hg hso hso2 hst hv hv2 hb⟩)
end
end G
end
section
set_option Elab.async false
set_option linter.all false
set_option maxRecDepth 100000
set_option maxHeartbeats 4000000
set_option exponentiation.threshold 10000
/-! walks of the law: its own numbers -/
namespace G
open PySem PySem.Spec PyProof.Rows L2
local macro_rules | `(tactic| walk_at "ev") => `(tactic| repeat' (first
  | ((with_reducible refine' ev_var ?_); rfl) | ((with_reducible refine' EvD.l (ev_var ?_)); rfl) | ((with_reducible refine' el_bor ?_); rfl) | ((with_reducible refine' EvC.l (ec_var ?_)); rfl) | ((with_reducible refine' evv_var ?_); rfl) | with_reducible exact ev_int | with_reducible exact ev_str | with_reducible exact ev_bl | with_reducible exact ev_non
  | ((with_reducible refine' Tx.evN ?_); assumption) | ((with_reducible refine' Tx.evO ?_); assumption)
  | with_reducible exact ea_nil | with_reducible refine' ea_dat ?_ ?_ | with_reducible refine' ea_bor ?_ ?_ | with_reducible refine' ea_val ?_ ?_
  | with_reducible refine' ev_add ?_ ?_ | with_reducible refine' ev_sub ?_ ?_ | with_reducible refine' ev_mulW ?_ ?_ ?_ | with_reducible refine' ev_neg ?_ | with_reducible refine' ev_cmp ?_ ?_
  | with_reducible refine' ev_q0 ?_ | with_reducible refine' ev_q1 ?_
  | with_reducible refine' ev_k_draw ?_ | with_reducible refine' ev_k_ours ?_ | with_reducible refine' ev_k_theirs ?_ | with_reducible refine' ev_k_reward ?_ | with_reducible refine' ev_k_fin ?_ | with_reducible refine' ev_k_lose ?_
  | with_reducible refine' ev_n_draw ?_ | with_reducible refine' ev_n_ours ?_ | with_reducible refine' ev_n_theirs ?_ | with_reducible refine' ev_n_reward ?_ | with_reducible refine' ev_n_fin ?_ | with_reducible refine' ev_n_lose ?_
  | with_reducible refine' ev_side ?_ ?_ | with_reducible refine' ev_kind ?_
  | with_reducible refine' eb_test ?_ | with_reducible refine' eb_B ?_ | with_reducible refine' ev_int1 ?_ | with_reducible refine' eb_not ?_ | with_reducible refine' eb_or ?_ (fun _ => ?_) | with_reducible refine' eb_and ?_ (fun _ => ?_) | with_reducible refine' ev_t0 ?_ | with_reducible refine' ev_t1 ?_ | with_reducible refine' ev_t2 ?_))
local macro_rules | `(tactic| walk_at "ifT") => `(tactic| (refine' hs_seq (hs_ifT (b := _) ?h ?n ?e); (case h => walk_at "ev"); (case e => rfl)))
local macro_rules | `(tactic| walk_at "ifF") => `(tactic| (refine' hs_seq (hs_ifF (b := _) ?h (hs_next ?n) ?e); (case h => walk_at "ev"); (case e => rfl)))
/-! Euclid's steps, counted -/
def EuI (i : Nat) (a b : Nat) : Prop := (i % 2 = 0 ∧ b < 2 ^ (2000 - i / 2)) ∨ (i % 2 = 1 ∧ b < a ∧ a < 2 ^ (2000 - i / 2))
theorem eu_step {i a b : Nat} (h : EuI i a b) (hb : b ≠ 0) : EuI (i + 1) b (a % b) := by
  rcases h with ⟨h1, h2⟩ | ⟨h1, h2, h3⟩
  · right
    refine ⟨by omega, Nat.mod_lt _ (by omega), ?_⟩
    rw [show (i + 1) / 2 = i / 2 by omega]
    exact h2
  · left
    refine ⟨by omega, ?_⟩
    rw [show (i + 1) / 2 = i / 2 + 1 by omega]
    have h4 : i / 2 < 2000 := Classical.byContradiction fun z => by
      rw [show 2000 - i / 2 = 0 by omega] at h3
      have : (2 : Nat) ^ 0 = 1 := rfl
      omega
    have h5 : 2 ^ (2000 - i / 2) = 2 ^ (2000 - (i / 2 + 1)) * 2 := by
      rw [← Nat.pow_succ]; congr 1; omega
    rw [h5] at h3
    have h6 : 2 * (a % b) < a := by
      have hm := Nat.mod_lt a (show b > 0 by omega)
      have hd := Nat.div_add_mod a b
      have hq : 1 ≤ a / b := (Nat.le_div_iff_mul_le (by omega)).mpr (by omega)
      have := Nat.mul_le_mul_left b hq
      omega
    omega
theorem eu_end {a b : Nat} (h : EuI 5000 a b) : b = 0 := by
  rcases h with ⟨_, h2⟩ | ⟨h1, _⟩
  · rw [show 2000 - 5000 / 2 = 0 by decide] at h2
    have : (2 : Nat) ^ 0 = 1 := rfl
    omega
  · exact absurd h1 (by decide)
theorem ev_isi {K : PySem.W.Frag} {w : World} {ρ : List Sl} {ta : TE} {d : PyData} {n u : String} {b : Bool} (ha : EvD K w ta ρ d) (hd : ∀ I v, Dp K I v d → ∀ H, Ex I H → TyX K H v (.type n)) (hb : kitB n u = some b) : EvD K w (tCB (rIsi K) (tCons ta (tCons (tC (.ty u)) tNil))) ρ (.bool b) :=
  ev_cb (ea_dat ha (ea_val evv_c ea_nil)) fun I H vs e h Q q => by
    obtain ⟨v, x, rfl, h1, h2⟩ := ars2 h
    cases h2
    exact ⟨v, .ty u, .type n, .type u, b, rfl, .ty u, hd I v h1 H e, kit_ty hb, q _ I H (.refl e) (.bl _)⟩
theorem ty_tup {K : PySem.W.Frag} {I : Hp} {v : V} {ds : List PyData} (h : Dp K I v (.tuple ds)) (H : Hp) (e : Ex I H) : TyX K H v (.type "tuple") := by
  obtain ⟨a, xs, rfl, h1, _⟩ := dp_tup h
  rcases h1 with (h1 | ⟨o, h1⟩) | ⟨o, its, n, h1, h2, _⟩
  · exact .base (.tup (e a _ h1))
  · exact .fTuple (e a _ h1)
  · exact .kTuple h1 h2
theorem ty_lst {K : PySem.W.Frag} {I : Hp} {v : V} {ds : List PyData} (h : Dp K I v (.list ds)) (H : Hp) (e : Ex I H) : TyX K H v (.type "list") := by
  obtain ⟨a, xs, rfl, h1, _⟩ := dp_lst h
  rcases h1 with (h1 | ⟨o, h1⟩) | ⟨o, its, n, h1, h2, _⟩
  · exact .base (.lst (e a _ h1))
  · exact .base (.frz (e a _ h1))
  · exact .kList h1 h2
theorem ty_int {K : PySem.W.Frag} {I : Hp} {v : V} {i : Int} (h : Dp K I v (.int i)) (H : Hp) (e : Ex I H) : TyX K H v (.type "int") := by
  cases dp_int h
  exact .base (.int i)
section
variable {Pg : Program} {w : World} {K : PySem.W.Frag} {mg : Str → Option Value} {base : Heap} {aN aO : Addr}
/-! _law_lowest: level 1; slots 0 _law_n, 1 _law_d, 2 _law_a, 3 _law_b, 4 _law_step; calls [] -/
abbrev s__law_lowest : Stmt := topS 47
theorem sc__law_lowest : FnScope ["_law_n", "_law_d", "_law_a", "_law_b", "_law_step"] ["_law_n", "_law_d"] (defScope s__law_lowest) := ⟨rfl, rfl, rfl, by decide +kernel, rfl, by decide +kernel, by decide +kernel⟩
def S_lowest : List Ar → (PyData → Prop) → Prop := fun as R => ∃ n d : Int, as = [.dat (.int n), .dat (.int d)] ∧ d ≠ 0 ∧ d.natAbs < 2 ^ 2000 ∧ R (num (Rat.divInt n d))
theorem ok__law_lowest {f : Addr} {fd : FuncData} (T : Tx K mg aN aO) (F : Fun K "_law_lowest" "_law_lowest" s__law_lowest f fd) : FnOk Pg w K mg base CX0 1 f fd ["_law_n", "_law_d"] (spD K S_lowest) := by
  refine fok F sc__law_lowest (fun as R h => ?len) fun cdv A outer s H E hr => ?_
  case len => obtain ⟨_, _, rfl, _⟩ := h; rfl
  have nd := sc__law_lowest.nd
  refine ⟨_, (pss_cons (ps_if (pt_cmpR op_lt (pv 1) pe_int (nomark _)) (pss_one (ps_par (i := 0) (j := 1) (by rfl) nd rfl rfl (by decide) rfl rfl (pa_cons (pe_un un_neg (pv 0)) (pa_cons (pe_un un_neg (pv 1)) pa_nil)) (by rfl))) pss_nil)
        (pss_cons (ps_par (i := 2) (j := 3) (by rfl) nd rfl rfl (by decide) rfl rfl (pa_cons (pe_callB call_abs (by rfl) T.abs (by decide +kernel) (pa_cons (pv 0) pa_nil)) (pa_cons (pv 1) pa_nil)) (by rfl))
        (pss_cons (ps_for PassesOwn.never rfl (pi_range1 (by rfl) T.range (pa_cons pe_int pa_nil)) (pg_name (i := 4) nd rfl (Or.inl rfl)) (pss_cons (ps_if (pt_cmpR op_eq (pv 3) pe_int (nomark _)) (pss_one ps_break) pss_nil)
        (pss_one (ps_par (i := 2) (j := 3) (by rfl) nd rfl rfl (by decide) rfl rfl (pa_cons (pv 3) (pa_cons (pe_op op_mod (pe_callTy call_int1 (by rfl) T.int_ (by decide +kernel) (pa_cons (pv 2) pa_nil)) (pv 3)) pa_nil)) (by rfl)))))
        (pss_one (ps_ret (pe_tup (pa_cons (pe_op op_fdivW (pv 0) (pv 2)) (pa_cons (pe_op op_fdivW (pv 1) (pv 2)) pa_nil)))))))), fun as R hS => ?_⟩
  obtain ⟨n, d, rfl, hd, hs, hR⟩ := hS
  refine hs_seq_of (fun ρ => ∃ n' d' : Int, 0 < d' ∧ d'.natAbs < 2 ^ 2000 ∧ Rat.divInt n' d' = Rat.divInt n d ∧ ρ = [.dat (.int n'), .dat (.int d'), .any, .any, .any]) (hs_if (eb_test (ev_cmp (ev_var rfl) ev_int)) (fun h => ?_) (fun h => ?_)) fun ρ hρ => ?_
  · have h' : d < 0 := of_decide_eq_true h
    refine hs_par (ea_dat (ev_neg (ev_var rfl)) (ea_dat (ev_neg (ev_var rfl)) ea_nil)) ?_
    exact ⟨-n, -d, by omega, by rw [Int.natAbs_neg]; exact hs, Rat.neg_divInt_neg n d, rfl⟩
  · have h' : ¬ d < 0 := of_decide_eq_false h
    exact hs_next ⟨n, d, by omega, hs, rfl, rfl⟩
  · obtain ⟨n', d', h0, h1, e, rfl⟩ := hρ
    have hg : 0 < ((Nat.gcd n'.natAbs d'.natAbs : Nat) : Int) := by
      have := Nat.gcd_pos_of_pos_right n'.natAbs (show 0 < d'.natAbs by omega)
      omega
    have hc : ∀ i, CDivW i ((Nat.gcd n'.natAbs d'.natAbs : Nat) : Int) := by
      refine fun i => ⟨hg, ?_⟩
      rw [Int.natAbs_natCast]
      refine log2_of (Nat.lt_of_le_of_lt (Nat.le_of_dvd (by omega) (Nat.gcd_dvd_right _ _)) (Nat.lt_of_lt_of_le h1 (Nat.pow_le_pow_right (by decide) (by decide)))) (by decide)
    have hdd : d' = ((d'.natAbs : Nat) : Int) := by omega
    refine hs_seq (hs_par (x := .int ((n'.natAbs : Nat) : Int)) (y := .int ((d'.natAbs : Nat) : Int)) (ea_dat (ev_abs (ev_var rfl)) (ea_dat (ev_var (by rw [← hdd]; rfl)) ea_nil)) ?_)
    refine hs_seq_of (fun ρ => ∃ x4, ρ = [.dat (.int n'), .dat (.int d'), .dat (.int ((Nat.gcd n'.natAbs d'.natAbs : Nat) : Int)), .dat (.int ((0 : Nat) : Int)), x4]) (hs_for (fun i ρ => ∃ (a b : Nat) (x4 : Sl), ρ = [.dat (.int n'), .dat (.int d'), .dat (.int (a : Int)), .dat (.int (b : Int)), x4] ∧ Nat.gcd a b = Nat.gcd n'.natAbs d'.natAbs ∧ EuI i a b) (ei_range (n := 5000) ev_int (by decide)) ⟨n'.natAbs, d'.natAbs, .any, rfl, rfl, .inl ⟨rfl, h1⟩⟩ (fun i x ρ hx hρ => ?_) (fun ρ hρ => ?_)) fun ρ hρ => ?_
    · obtain ⟨a, b, x4, rfl, k1, k2⟩ := hρ
      refine hg_name ?_
      refine hs_seq (hs_if (b := decide ((b : Int) = ((0 : Nat) : Int))) (eb_test (ev_eqInt (ev_var rfl) ev_int)) (fun h => ?_) (fun h => hs_next ?_))
      · have hb0 : b = 0 := by have := of_decide_eq_true h; omega
        subst hb0
        rw [Nat.gcd_zero_right] at k1
        subst k1
        exact hs_break ⟨_, rfl⟩
      · have hb0 : b ≠ 0 := by have := of_decide_eq_false h; omega
        refine hs_par (x := .int (b : Int)) (y := .int ((a % b : Nat) : Int)) (ea_dat (ev_var rfl) (ea_dat ((ev_I (C := fun x j => 0 < j) (g := fun i j => i % j) (ev_int1 (ev_var rfl)) (ev_var rfl) (by omega)).is (by rw [Int.natCast_emod])) ea_nil)) ?_
        exact ⟨b, a % b, _, rfl, by rw [← k1, Nat.gcd_comm b, ← Nat.gcd_rec, Nat.gcd_comm], eu_step k2 hb0⟩
    · obtain ⟨a, b, x4, rfl, k1, k2⟩ := hρ
      have hb0 := eu_end (by simpa using k2)
      subst hb0
      rw [Nat.gcd_zero_right] at k1
      subst k1
      exact ⟨_, rfl⟩
    · obtain ⟨x4, rfl⟩ := hρ
      refine hs_ret (ev_tup (ds := [_, _]) (ea_dat (ev_fdivW (ev_var rfl) (ev_var rfl) (hc _)) (ea_dat (ev_fdivW (ev_var rfl) (ev_var rfl) (hc _)) ea_nil)) (by show 2 ≤ 100000; decide)) ?_
      show R _
      rw [← num_div_pos h0, e]
      exact hR
/-- the law's sums and products -/
def S_ltwo (op : Rat → Rat → Rat) : List Ar → (PyData → Prop) → Prop := fun as R => ∃ a b : Rat, as = [.dat (num a), .dat (num b)] ∧ Sm 4000 a ∧ Sm 4000 b ∧ a.den * b.den < 2 ^ 2000 ∧ R (num (op a b))
def S_ldiv : List Ar → (PyData → Prop) → Prop := fun as R => ∃ a b : Rat, as = [.dat (num a), .dat (num b)] ∧ Sm 900 a ∧ Sm 900 b ∧ b ≠ 0 ∧ R (num (a / b))
/-! _law_add: level 2; slots 0 _law_a, 1 _law_b; calls ['_law_lowest 1'] -/
abbrev s__law_add : Stmt := topS 54
theorem sc__law_add : FnScope ["_law_a", "_law_b"] ["_law_a", "_law_b"] (defScope s__law_add) := ⟨rfl, rfl, rfl, by decide +kernel, rfl, by decide +kernel, by decide +kernel⟩
theorem ok__law_add {f : Addr} {fd : FuncData} (T : Tx K mg aN aO) (F : Fun K "_law_add" "_law_add" s__law_add f fd) (c__law_lowest : Cal Pg w K mg base 1 "_law_lowest" (spD K S_lowest)) : FnOk Pg w K mg base CX0 2 f fd ["_law_a", "_law_b"] (spD K (S_ltwo (· + ·))) := by
  refine fok F sc__law_add (fun as R h => ?len) fun cdv A outer s H E hr => ?_
  case len => obtain ⟨_, _, rfl, _⟩ := h; rfl
  have nd := sc__law_add.nd
  refine ⟨_, (pss_one (ps_ret (pe_c c__law_lowest hr (by decide) (by rfl) (pa_cons (pe_op op_add (pe_op op_mulW (kx_ixT (K := K) rfl (pv 0) pe_int (fun _ _ => rfl)) (kx_ixT (K := K) rfl (pv 1) pe_int (fun _ _ => rfl))) (pe_op op_mulW (kx_ixT (K := K) rfl (pv 1) pe_int (fun _ _ => rfl)) (kx_ixT (K := K) rfl (pv 0) pe_int (fun _ _ => rfl)))) (pa_cons (pe_op op_mulW (kx_ixT (K := K) rfl (pv 0) pe_int (fun _ _ => rfl)) (kx_ixT (K := K) rfl (pv 1) pe_int (fun _ _ => rfl))) pa_nil))))), fun as R hS => ?_⟩
  obtain ⟨a, b, rfl, ha, hb, hd, hR⟩ := hS
  refine hs_ret (ev_call (as := [.dat (.int (a.num * b.den + b.num * a.den)), .dat (.int ((a.den : Int) * b.den))]) (by walk_at "ev"; exact mulSm ha.1 (by rw [den_nat]; exact hb.2); exact mulSm hb.1 (by rw [den_nat]; exact ha.2); exact mulSm (by rw [den_nat]; exact ha.2) (by rw [den_nat]; exact hb.2)) fun R' hR' => ⟨_, _, rfl, Int.mul_ne_zero den_ne den_ne, ?_, hR'⟩) ?_
  · rw [Int.natAbs_mul, den_nat, den_nat]
    exact hd
  · show R _
    rw [← Int.natCast_mul, Rat.divInt_ofNat, ← Rat.add_def']
    exact hR
/-! _law_mul: level 2; slots 0 _law_a, 1 _law_b; calls ['_law_lowest 1'] -/
abbrev s__law_mul : Stmt := topS 56
theorem sc__law_mul : FnScope ["_law_a", "_law_b"] ["_law_a", "_law_b"] (defScope s__law_mul) := ⟨rfl, rfl, rfl, by decide +kernel, rfl, by decide +kernel, by decide +kernel⟩
theorem ok__law_mul {f : Addr} {fd : FuncData} (T : Tx K mg aN aO) (F : Fun K "_law_mul" "_law_mul" s__law_mul f fd) (c__law_lowest : Cal Pg w K mg base 1 "_law_lowest" (spD K S_lowest)) : FnOk Pg w K mg base CX0 2 f fd ["_law_a", "_law_b"] (spD K (S_ltwo (· * ·))) := by
  refine fok F sc__law_mul (fun as R h => ?len) fun cdv A outer s H E hr => ?_
  case len => obtain ⟨_, _, rfl, _⟩ := h; rfl
  have nd := sc__law_mul.nd
  refine ⟨_, (pss_one (ps_ret (pe_c c__law_lowest hr (by decide) (by rfl) (pa_cons (pe_op op_mulW (kx_ixT (K := K) rfl (pv 0) pe_int (fun _ _ => rfl)) (kx_ixT (K := K) rfl (pv 1) pe_int (fun _ _ => rfl))) (pa_cons (pe_op op_mulW (kx_ixT (K := K) rfl (pv 0) pe_int (fun _ _ => rfl)) (kx_ixT (K := K) rfl (pv 1) pe_int (fun _ _ => rfl))) pa_nil))))), fun as R hS => ?_⟩
  obtain ⟨a, b, rfl, ha, hb, hd, hR⟩ := hS
  refine hs_ret (ev_call (as := [.dat (.int (a.num * b.num)), .dat (.int ((a.den : Int) * b.den))]) (by walk_at "ev"; exact mulSm ha.1 hb.1; exact mulSm (by rw [den_nat]; exact ha.2) (by rw [den_nat]; exact hb.2)) fun R' hR' => ⟨_, _, rfl, Int.mul_ne_zero den_ne den_ne, ?_, hR'⟩) ?_
  · rw [Int.natAbs_mul, den_nat, den_nat]
    exact hd
  · show R _
    rw [← Int.natCast_mul, Rat.divInt_ofNat, ← Rat.mul_def']
    exact hR
/-! _law_div: level 2; slots 0 _law_a, 1 _law_b; calls ['_law_lowest 1'] -/
abbrev s__law_div : Stmt := topS 57
theorem sc__law_div : FnScope ["_law_a", "_law_b"] ["_law_a", "_law_b"] (defScope s__law_div) := ⟨rfl, rfl, rfl, by decide +kernel, rfl, by decide +kernel, by decide +kernel⟩
theorem ok__law_div {f : Addr} {fd : FuncData} (T : Tx K mg aN aO) (F : Fun K "_law_div" "_law_div" s__law_div f fd) (c__law_lowest : Cal Pg w K mg base 1 "_law_lowest" (spD K S_lowest)) : FnOk Pg w K mg base CX0 2 f fd ["_law_a", "_law_b"] (spD K S_ldiv) := by
  refine fok F sc__law_div (fun as R h => ?len) fun cdv A outer s H E hr => ?_
  case len => obtain ⟨_, _, rfl, _⟩ := h; rfl
  have nd := sc__law_div.nd
  refine ⟨_, (pss_one (ps_ret (pe_c c__law_lowest hr (by decide) (by rfl) (pa_cons (pe_op op_mulW (kx_ixT (K := K) rfl (pv 0) pe_int (fun _ _ => rfl)) (kx_ixT (K := K) rfl (pv 1) pe_int (fun _ _ => rfl))) (pa_cons (pe_op op_mulW (kx_ixT (K := K) rfl (pv 0) pe_int (fun _ _ => rfl)) (kx_ixT (K := K) rfl (pv 1) pe_int (fun _ _ => rfl))) pa_nil))))), fun as R hS => ?_⟩
  obtain ⟨a, b, rfl, ha', hb', h0, hR⟩ := hS
  have ha : Sm 4000 a := ha'.mono (by decide)
  have hb : Sm 4000 b := hb'.mono (by decide)
  have hb0 : b.num ≠ 0 := fun z => h0 (Rat.num_eq_zero.mp z)
  refine hs_ret (ev_call (as := [.dat (.int (a.num * b.den)), .dat (.int ((a.den : Int) * b.num))]) (by walk_at "ev"; exact mulSm ha.1 (by rw [den_nat]; exact hb.2); exact mulSm (by rw [den_nat]; exact ha.2) hb.1) fun R' hR' => ⟨_, _, rfl, Int.mul_ne_zero den_ne hb0, ?_, hR'⟩) ?_
  · rw [Int.natAbs_mul, den_nat]
    exact lt_pow ha'.2 hb'.1 (by decide)
  · show R _
    rw [← div_divInt]
    exact hR
/-! _law_sub: level 3; slots 0 _law_a, 1 _law_b; calls ['_law_add 2'] -/
abbrev s__law_sub : Stmt := topS 55
theorem sc__law_sub : FnScope ["_law_a", "_law_b"] ["_law_a", "_law_b"] (defScope s__law_sub) := ⟨rfl, rfl, rfl, by decide +kernel, rfl, by decide +kernel, by decide +kernel⟩
theorem ok__law_sub {f : Addr} {fd : FuncData} (T : Tx K mg aN aO) (F : Fun K "_law_sub" "_law_sub" s__law_sub f fd) (c__law_add : Cal Pg w K mg base 2 "_law_add" (spD K (S_ltwo (· + ·)))) : FnOk Pg w K mg base CX0 3 f fd ["_law_a", "_law_b"] (spD K (S_ltwo (· - ·))) := by
  refine fok F sc__law_sub (fun as R h => ?len) fun cdv A outer s H E hr => ?_
  case len => obtain ⟨_, _, rfl, _⟩ := h; rfl
  have nd := sc__law_sub.nd
  refine ⟨_, (pss_one (ps_ret (pe_c c__law_add hr (by decide) (by rfl) (pa_cons (pv 0) (pa_cons (pe_tup (pa_cons (pe_un un_neg (kx_ixT (K := K) rfl (pv 1) pe_int (fun _ _ => rfl))) (pa_cons (kx_ixT (K := K) rfl (pv 1) pe_int (fun _ _ => rfl)) pa_nil))) pa_nil))))), fun as R hS => ?_⟩
  obtain ⟨a, b, rfl, ha, hb, hd, hR⟩ := hS
  have e : num (-b) = .tuple [.int (-b.num), .int (b.den : Int)] := by
    unfold num
    rw [Rat.neg_num, Rat.neg_den]
  have hR2 : R (num (a + -b)) := by
    rw [← Rat.sub_eq_add_neg]
    exact hR
  exact hs_ret (ev_call (as := [.dat (num a), .dat (num (-b))]) (ea_dat (ev_var rfl) (ea_dat ((ev_tup (ds := [.int (-b.num), .int (b.den : Int)]) (ea_dat (ev_neg (ev_q0 (ev_var rfl))) (ea_dat (ev_q1 (ev_var rfl)) ea_nil)) (by show 2 ≤ 100000; decide)).is e.symm) ea_nil)) fun R' hR' => ⟨a, -b, rfl, ha, hb.neg, by rw [Rat.neg_den]; exact hd, hR'⟩) hR2
def S_less : List Ar → (PyData → Prop) → Prop := fun as R => ∃ a b : Rat, as = [.dat (num a), .dat (num b)] ∧ Sm 4000 a ∧ Sm 4000 b ∧ R (.bool (decide (a < b)))
/-! _law_less: level 1; slots 0 _law_a, 1 _law_b; calls [] -/
abbrev s__law_less : Stmt := topS 62
theorem sc__law_less : FnScope ["_law_a", "_law_b"] ["_law_a", "_law_b"] (defScope s__law_less) := ⟨rfl, rfl, rfl, by decide +kernel, rfl, by decide +kernel, by decide +kernel⟩
theorem ok__law_less {f : Addr} {fd : FuncData} (T : Tx K mg aN aO) (F : Fun K "_law_less" "_law_less" s__law_less f fd) : FnOk Pg w K mg base CX0 1 f fd ["_law_a", "_law_b"] (spD K S_less) := by
  refine fok F sc__law_less (fun as R h => ?len) fun cdv A outer s H E hr => ?_
  case len => obtain ⟨_, _, rfl, _⟩ := h; rfl
  have nd := sc__law_less.nd
  refine ⟨_, (pss_one (ps_ret (pe_cmpR op_lt (pe_op op_mulW (kx_ixT (K := K) rfl (pv 0) pe_int (fun _ _ => rfl)) (kx_ixT (K := K) rfl (pv 1) pe_int (fun _ _ => rfl))) (pe_op op_mulW (kx_ixT (K := K) rfl (pv 1) pe_int (fun _ _ => rfl)) (kx_ixT (K := K) rfl (pv 0) pe_int (fun _ _ => rfl))) (nomark _)))), fun as R hS => ?_⟩
  obtain ⟨a, b, rfl, ha, hb, hR⟩ := hS
  refine hs_ret (d := .bool (decide (a.num * b.den < b.num * a.den))) (by walk_at "ev"; exact mulSm ha.1 (by rw [den_nat]; exact hb.2); exact mulSm hb.1 (by rw [den_nat]; exact ha.2)) ?_
  show R _
  have e : decide (a.num * b.den < b.num * a.den) = decide (a < b) := by
    rw [Bool.eq_iff_iff, decide_eq_true_eq, decide_eq_true_eq, Rat.lt_iff]
  rw [e]
  exact hR
def S_is_number : List Ar → (PyData → Prop) → Prop := fun as R => ∃ a : Rat, as = [.dat (num a)] ∧ R (.bool true)
/-! _law_is_number: level 1; slots 0 _law_value; calls [] -/
abbrev s__law_is_number : Stmt := topS 60
theorem sc__law_is_number : FnScope ["_law_value"] ["_law_value"] (defScope s__law_is_number) := ⟨rfl, rfl, rfl, by decide +kernel, rfl, by decide +kernel, by decide +kernel⟩
theorem ok__law_is_number {f : Addr} {fd : FuncData} (T : Tx K mg aN aO) (F : Fun K "_law_is_number" "_law_is_number" s__law_is_number f fd) : FnOk Pg w K mg base CX0 1 f fd ["_law_value"] (spD K S_is_number) := by
  refine fok F sc__law_is_number (fun as R h => ?len) fun cdv A outer s H E hr => ?_
  case len => obtain ⟨_, rfl, _⟩ := h; rfl
  have nd := sc__law_is_number.nd
  refine ⟨_, (pss_cons (ps_if (PW.pt (pw_or (pt_not (pt_val (kx_isi (K := K) rfl (by rfl) T.isinstance (pa_cons (pv 0) (pa_cons (pe_bltn (v := .ty "tuple") (by rfl) T.tuple (by decide +kernel) rfl) pa_nil))))) (pw_or1 (pt_cmpR op_ne (kx_len (K := K) rfl (by rfl) T.len (pa_cons (pv 0) pa_nil)) pe_int (nomark _))))) (pss_one (ps_ret pe_bl)) pss_nil)
        (pss_cons (ps_if (PW.pt (pw_or (pt_not (pt_val (kx_isi (K := K) rfl (by rfl) T.isinstance (pa_cons (kx_ixT (K := K) rfl (pv 0) pe_int (fun _ _ => rfl)) (pa_cons (pe_bltn (v := .ty "int") (by rfl) T.int_ (by decide +kernel) rfl) pa_nil))))) (pw_or (pt_not (pt_val (kx_isi (K := K) rfl (by rfl) T.isinstance (pa_cons (kx_ixT (K := K) rfl (pv 0) pe_int (fun _ _ => rfl)) (pa_cons (pe_bltn (v := .ty "int") (by rfl) T.int_ (by decide +kernel) rfl) pa_nil))))) (pw_or1 (pt_cmpR op_lt (kx_ixT (K := K) rfl (pv 0) pe_int (fun _ _ => rfl)) pe_int (nomark _)))))) (pss_one (ps_ret pe_bl)) pss_nil)
        (pss_one (ps_ret (pe_and (pe_not (kx_isi (K := K) rfl (by rfl) T.isinstance (pa_cons (kx_ixT (K := K) rfl (pv 0) pe_int (fun _ _ => rfl)) (pa_cons (pe_bltn (v := .ty "bool") (by rfl) T.bool (by decide +kernel) rfl) pa_nil)))) (pe_one (pe_not (kx_isi (K := K) rfl (by rfl) T.isinstance (pa_cons (kx_ixT (K := K) rfl (pv 0) pe_int (fun _ _ => rfl)) (pa_cons (pe_bltn (v := .ty "bool") (by rfl) T.bool (by decide +kernel) rfl) pa_nil)))))))))), fun as R hS => ?_⟩
  obtain ⟨a, rfl, hR⟩ := hS
  have hpos : 0 < (a.den : Int) := by have := a.den_pos; omega
  have t0 : ∀ {ρ : List Sl} {u : String} {b : Bool}, ρ[0]? = some (.dat (num a)) → kitB "tuple" u = some b → EvD K w (tCB (rIsi K) (tCons (tVar 0) (tCons (tC (.ty u)) tNil))) ρ (.bool b) := fun h1 h2 => ev_isi (ev_var h1) (fun I v h H e => ty_tup h H e) h2
  refine hs_seq (hs_if (b := !true || decide (¬ ((2 : Nat) : Int) = ((2 : Nat) : Int))) (eb_or (eb_not (eb_B (t0 rfl (by decide +kernel)))) fun _ => eb_test (ev_neInt (ev_lenT (ds := [_, _]) (ev_var rfl)) ev_int)) (fun h => by simp at h) (fun _ => hs_next ?_))
  refine hs_seq (hs_if (b := !true || (!true || decide ((a.den : Int) < 1))) (eb_or (eb_not (eb_B (ev_isi (ev_q0 (ev_var rfl)) (fun I v h H e => ty_int h H e) (by decide +kernel)))) fun _ => eb_or (eb_not (eb_B (ev_isi (ev_q1 (ev_var rfl)) (fun I v h H e => ty_int h H e) (by decide +kernel)))) fun _ => eb_test (ev_cmp (ev_q1 (ev_var rfl)) ev_int)) (fun h => by
    have : (a.den : Int) < 1 := by simpa using h
    omega) (fun _ => hs_next ?_))
  refine hs_ret (ev_andV (ev_notV (ev_isi (b := false) (ev_q0 (ev_var rfl)) (fun I v h H e => ty_int h H e) (by decide +kernel))) fun _ => ev_notV (ev_isi (b := false) (ev_q1 (ev_var rfl)) (fun I v h H e => ty_int h H e) (by decide +kernel))) hR
def S_is_numbers : List Ar → (PyData → Prop) → Prop := fun as R => ∃ (n : Nat) (f : Nat → Rat), as = [.dat (eFq n f)] ∧ n ≤ 100 ∧ R (.bool true)
/-! _law_is_numbers: level 2; slots 0 _law_numbers, 1 _law_one; calls ['_law_is_number 1'] -/
abbrev s__law_is_numbers : Stmt := topS 61
theorem sc__law_is_numbers : FnScope ["_law_numbers", "_law_one"] ["_law_numbers"] (defScope s__law_is_numbers) := ⟨rfl, rfl, rfl, by decide +kernel, rfl, by decide +kernel, by decide +kernel⟩
theorem ok__law_is_numbers {f : Addr} {fd : FuncData} (T : Tx K mg aN aO) (F : Fun K "_law_is_numbers" "_law_is_numbers" s__law_is_numbers f fd) (c__law_is_number : Cal Pg w K mg base 1 "_law_is_number" (spD K S_is_number)) : FnOk Pg w K mg base CX0 2 f fd ["_law_numbers"] (spD K S_is_numbers) := by
  refine fok F sc__law_is_numbers (fun as R h => ?len) fun cdv A outer s H E hr => ?_
  case len => obtain ⟨_, _, rfl, _⟩ := h; rfl
  have nd := sc__law_is_numbers.nd
  refine ⟨_, (pss_one (ps_ret (pe_and (kx_isi (K := K) rfl (by rfl) T.isinstance (pa_cons (pv 0) (pa_cons (pe_bltn (v := .ty "list") (by rfl) T.list (by decide +kernel) rfl) pa_nil))) (pe_one (kx_all (K := K) rfl rfl (by rfl) T.all (pa_cons (pe_lc (own := [("_law_one", 1)]) (g := (gName 1)) (by rfl) nd (ki_list (K := K) rfl (pv 0)) (blkOk_by (N := ["_law_numbers", "_law_one"]) (sc := defScope s__law_is_numbers) (by decide +kernel)) (fun _ _ _ _ _ => (pg_name (i := 1) nd rfl (Or.inl rfl))) (fun _ _ _ _ _ => pts_nil) (fun _ _ _ _ _ => (pe_c c__law_is_number hr (by decide) (by rfl) (pa_cons (pv 1) pa_nil)))) pa_nil)))))), fun as R hS => ?_⟩
  obtain ⟨n, f, rfl, hn, hR⟩ := hS
  refine hs_ret (d := .bool true) ((ev_andV (ev_isi (b := true) (ev_var rfl) (fun I v h H e => ty_lst h H e) (by decide +kernel)) fun _ => ev_all (bs := (List.range n).map fun _ => true) (EvN.l ((en_mapF (n := n) (enc := fun k => num (f k)) (fun _ => .bool true) (ei_listF (ev_var rfl)) (by omega) fun k hk => ⟨_, .name 1 _, ev_call (as := [.dat (num (f k))]) (by walk_at "ev") fun R' hR' => ⟨f k, rfl, hR'⟩⟩).is (by rw [List.map_map]; rfl)))).is ?_) hR
  congr 1
  rw [Bool.true_and, List.all_map, List.all_eq_true]
  exact fun _ _ => rfl
end
end G
end
section
set_option Elab.async false
set_option linter.all false
set_option maxRecDepth 100000
set_option maxHeartbeats 4000000
/-! walks of the law: targets, what is reached -/
namespace G
open PySem PySem.Spec PyProof.Rows L2
local macro_rules | `(tactic| walk_at "ev") => `(tactic| repeat' (first
  | ((with_reducible refine' ev_var ?_); rfl) | ((with_reducible refine' EvD.l (ev_var ?_)); rfl) | ((with_reducible refine' el_bor ?_); rfl) | ((with_reducible refine' EvC.l (ec_var ?_)); rfl) | ((with_reducible refine' evv_var ?_); rfl) | with_reducible exact ev_int | with_reducible exact ev_str | with_reducible exact ev_bl | with_reducible exact ev_non
  | ((with_reducible refine' Tx.evN ?_); assumption) | ((with_reducible refine' Tx.evO ?_); assumption)
  | with_reducible exact ea_nil | with_reducible refine' ea_dat ?_ ?_ | with_reducible refine' ea_bor ?_ ?_ | with_reducible refine' ea_val ?_ ?_
  | with_reducible refine' ev_add ?_ ?_ | with_reducible refine' ev_sub ?_ ?_ | with_reducible refine' ev_mulW ?_ ?_ ?_ | with_reducible refine' ev_neg ?_ | with_reducible refine' ev_cmp ?_ ?_
  | with_reducible refine' ev_q0 ?_ | with_reducible refine' ev_q1 ?_
  | with_reducible refine' ev_k_draw ?_ | with_reducible refine' ev_k_ours ?_ | with_reducible refine' ev_k_theirs ?_ | with_reducible refine' ev_k_reward ?_ | with_reducible refine' ev_k_fin ?_ | with_reducible refine' ev_k_lose ?_
  | with_reducible refine' ev_n_draw ?_ | with_reducible refine' ev_n_ours ?_ | with_reducible refine' ev_n_theirs ?_ | with_reducible refine' ev_n_reward ?_ | with_reducible refine' ev_n_fin ?_ | with_reducible refine' ev_n_lose ?_
  | with_reducible refine' ev_side ?_ ?_ | with_reducible refine' ev_kind ?_
  | with_reducible refine' eb_test ?_ | with_reducible refine' eb_B ?_ | with_reducible refine' ev_int1 ?_ | with_reducible refine' eb_not ?_ | with_reducible refine' eb_or ?_ (fun _ => ?_) | with_reducible refine' eb_and ?_ (fun _ => ?_) | with_reducible refine' ev_t0 ?_ | with_reducible refine' ev_t1 ?_ | with_reducible refine' ev_t2 ?_))
local macro_rules | `(tactic| walk_at "ifT") => `(tactic| (refine' hs_seq (hs_ifT (b := _) ?h ?n ?e); (case h => walk_at "ev"); (case e => rfl)))
local macro_rules | `(tactic| walk_at "ifF") => `(tactic| (refine' hs_seq (hs_ifF (b := _) ?h (hs_next ?n) ?e); (case h => walk_at "ev"); (case e => rfl)))
theorem kd_two (p : Pl) : decide (kindS p ∈ [Str.ofString "ours", Str.ofString "theirs"]) = (p.is_ours || p.is_theirs) := by
  cases p <;> rfl
section
variable {Pg : Program} {w : World} {K : PySem.W.Frag} {mg : Str → Option Value} {base : Heap} {aN aO : Addr}
theorem ev_two_in {ρ : List Sl} {ta : TE} {p : Pl} (ha : EvD K w ta ρ (ePl p)) : EvD K w (tOp (rIn K false) (tOp (rIxT K) ta (tC (.int 0))) (tLst (tCons (tC (.str (Str.ofString "ours"))) (tCons (tC (.str (Str.ofString "theirs"))) tNil)))) ρ (.bool (p.is_ours || p.is_theirs)) :=
  (ev_inS (ns := [Str.ofString "ours", Str.ofString "theirs"]) (ev_kind ha) (EvN.l (en_lst (ds := [.str (Str.ofString "ours"), .str (Str.ofString "theirs")]) (ea_dat ev_str (ea_dat ev_str ea_nil)) (by show 2 ≤ 100000; decide)))).is (by rw [kd_two])
/-! _law_targets: level 1; slots 0 _law_game_here, 1 _law_place_here, 2 _law_here, 3 _law_branch; calls [] -/
abbrev s__law_targets : Stmt := topS 51
theorem sc__law_targets : FnScope ["_law_game_here", "_law_place_here", "_law_here", "_law_branch"] ["_law_game_here", "_law_place_here"] (defScope s__law_targets) := ⟨rfl, rfl, rfl, by decide +kernel, rfl, by decide +kernel, by decide +kernel⟩
def S_ltargets : List Ar → (PyData → Prop) → Prop := fun as R => ∃ (g : Game) (i : Nat), as = [.dat (eG g), .dat (eN i)] ∧ GW g ∧ i < g.length ∧ R (eNs (pat g i).tgs)
theorem ok__law_targets {f : Addr} {fd : FuncData} (T : Tx K mg aN aO) (F : Fun K "_law_targets" "_law_targets" s__law_targets f fd) : FnOk Pg w K mg base CX0 1 f fd ["_law_game_here", "_law_place_here"] (spD K S_ltargets) := by
  refine fok F sc__law_targets (fun as R h => ?len) fun cdv A outer s H E hr => ?_
  case len => obtain ⟨_, _, rfl, _⟩ := h; rfl
  have nd := sc__law_targets.nd
  refine ⟨_, (pss_cons (ps_set (i := 2) nd rfl (Or.inl rfl) (kx_ixL (K := K) rfl (pv 0) (pv 1) (fun _ _ => rfl)))
        (pss_cons (ps_if (pt_cmpR op_eq (kx_ixT (K := K) rfl (pv 2) pe_int (fun _ _ => rfl)) pe_str (nomark _)) (pss_one (ps_ret (pe_lc (own := [("_law_branch", 3)]) (g := (gName 3)) (by rfl) nd (ki_list (K := K) rfl (kx_ixT (K := K) rfl (pv 2) pe_int (fun _ _ => rfl))) (blkOk_by (N := ["_law_game_here", "_law_place_here", "_law_here", "_law_branch"]) (sc := defScope s__law_targets) (by decide +kernel)) (fun _ _ _ _ _ => (pg_name (i := 3) nd rfl (Or.inl rfl))) (fun _ _ _ _ _ => pts_nil) (fun _ _ _ _ _ => (kx_ixT (K := K) rfl (pv 3) pe_int (fun _ _ => rfl)))))) pss_nil)
        (pss_cons (ps_if (kt_in (K := K) rfl (kx_ixT (K := K) rfl (pv 2) pe_int (fun _ _ => rfl)) (pe_lst (pa_cons pe_str (pa_cons pe_str pa_nil))) rfl) (pss_one (ps_ret (kx_list (K := K) rfl (by rfl) T.list (pa_cons (kx_ixT (K := K) rfl (pv 2) pe_int (fun _ _ => rfl)) pa_nil)))) pss_nil)
        (pss_cons (ps_if (pt_cmpR op_eq (kx_ixT (K := K) rfl (pv 2) pe_int (fun _ _ => rfl)) pe_str (nomark _)) (pss_one (ps_ret (pe_lst (pa_cons (kx_ixT (K := K) rfl (pv 2) pe_int (fun _ _ => rfl)) pa_nil)))) pss_nil)
        (pss_one (ps_ret (pe_lst pa_nil))))))), fun as R hS => ?_⟩
  obtain ⟨g, i, rfl, hg, hi, hR⟩ := hS
  have hl := hg.few i hi
  refine hs_seq (hs_asg (ev_ixG (ev_var rfl) (ev_var rfl) hi) ?_)
  revert hR hl
  cases pat g i with
  | draw bs =>
    intro hR hl
    have hl' : bs.length ≤ 6 := by simpa [Pl.tgs] using hl
    walk_at "ifT"
    refine (hs_ret (EvN.f (en_map bs (fun b => eN b.2) (ei_list (ev_t1 (ev_var rfl))) (by omega) fun a ha => ⟨_, .name 3 (eB a), ev_t1 (ev_var rfl)⟩)) ?_)
    show R _
    have e : bs.map (fun b => eN b.2) = (Pl.draw bs).tgs.map eN := by
      show _ = (bs.map (·.2)).map eN
      rw [List.map_map]; rfl
    rw [e]
    exact hR
  | ours ts =>
    intro hR hl
    walk_at "ifF"
    refine hs_seq (hs_ifT (eb_test (ev_two_in (ev_var rfl))) ?_ rfl)
    exact (hs_ret (en_list (EvD.l (ev_t1 (ev_var rfl)))).f hR)
  | theirs ts =>
    intro hR hl
    walk_at "ifF"
    refine hs_seq (hs_ifT (eb_test (ev_two_in (ev_var rfl))) ?_ rfl)
    exact (hs_ret (en_list (EvD.l (ev_t1 (ev_var rfl)))).f hR)
  | reward r x =>
    intro hR hl
    walk_at "ifF"
    refine hs_seq (hs_ifF (eb_test (ev_two_in (ev_var rfl))) (hs_next ?_) rfl)
    walk_at "ifT"
    exact (hs_ret (EvN.f (en_lst (ds := [_]) (ea_dat (ev_t2 (ev_var rfl)) ea_nil) (by show 1 ≤ 100000; decide))) hR)
  | fin =>
    intro hR hl
    walk_at "ifF"
    refine hs_seq (hs_ifF (eb_test (ev_two_in (ev_var rfl))) (hs_next ?_) rfl)
    walk_at "ifF"
    exact hs_ret (EvN.f (en_lst (ds := []) ea_nil (by show 0 ≤ 100000; decide))) hR
  | lose =>
    intro hR hl
    walk_at "ifF"
    refine hs_seq (hs_ifF (eb_test (ev_two_in (ev_var rfl))) (hs_next ?_) rfl)
    walk_at "ifF"
    exact hs_ret (EvN.f (en_lst (ds := []) ea_nil (by show 0 ≤ 100000; decide))) hR
/-! _law_goals: level 2; slots 0 _law_game_here, 1 _law_place_here, 2 _law_ours, 3 _law_theirs, 4 _law_goals_here; calls ['_law_targets 1'] -/
abbrev s__law_goals : Stmt := topS 52
theorem sc__law_goals : FnScope ["_law_game_here", "_law_place_here", "_law_ours", "_law_theirs", "_law_goals_here"] ["_law_game_here", "_law_place_here", "_law_ours", "_law_theirs"] (defScope s__law_goals) := ⟨rfl, rfl, rfl, by decide +kernel, rfl, by decide +kernel, by decide +kernel⟩
def S_lgoals : List Ar → (PyData → Prop) → Prop := fun as R => ∃ (g : Game) (i : Nat) (so st : Strat), as = [.dat (eG g), .dat (eN i), .dat (eSt so), .dat (eSt st)] ∧ GW g ∧ i < g.length ∧ StOk .us g so ∧ StOk .them g st ∧ R (eNs (pat (ch2 g so st) i).tgs)
theorem ev_tgt {ρ : List Sl} {ta tb tc : TE} {g : Game} {s : Sd} {st : Strat} {i : Nat} (h : StOk s g st) (hi : i < g.length) (hs : (pat g i).side = some s) (ha : EvL K w ta ρ ((pat g i).tgs.map eN)) (hb : EvL K w tb ρ (st.map eO)) (hc : EvD K w tc ρ (eN i)) : EvD K w (tOp (rIxL K) ta (tOp (rIxL K) tb tc)) ρ (eN (tgt g st i)) := by
  obtain ⟨b, h1, h2⟩ := h.yes i hi hs
  refine ev_ixM (enc := eN) ha (k := b) (ev_ixM (enc := eO) hb hc h1) ?_
  unfold tgt chz
  rw [show st.getD i none = some b by rw [List.getD_eq_getElem?_getD, h1]; rfl]
  show _ = some ((pat g i).tgs.getD b 0)
  rw [List.getD_eq_getElem?_getD, List.getElem?_eq_getElem h2]; rfl
theorem ok__law_goals {f : Addr} {fd : FuncData} (T : Tx K mg aN aO) (F : Fun K "_law_goals" "_law_goals" s__law_goals f fd) (c__law_targets : Cal Pg w K mg base 1 "_law_targets" (spD K S_ltargets)) : FnOk Pg w K mg base CX0 2 f fd ["_law_game_here", "_law_place_here", "_law_ours", "_law_theirs"] (spD K S_lgoals) := by
  refine fok F sc__law_goals (fun as R h => ?len) fun cdv A outer s H E hr => ?_
  case len => obtain ⟨_, _, _, _, rfl, _⟩ := h; rfl
  have nd := sc__law_goals.nd
  refine ⟨_, (pss_cons (ps_set (i := 4) nd rfl (Or.inl rfl) (pe_c c__law_targets hr (by decide) (by rfl) (pa_cons (pv 0) (pa_cons (pv 1) pa_nil))))
        (pss_cons (ps_if (pt_cmpR op_eq (kx_ixT (K := K) rfl (kx_ixL (K := K) rfl (pv 0) (pv 1) (fun _ _ => rfl)) pe_int (fun _ _ => rfl)) pe_str (nomark _)) (pss_one (ps_ret (pe_lst (pa_cons (kx_ixL (K := K) rfl (pv 4) (kx_ixL (K := K) rfl (pv 2) (pv 1) (fun _ _ => rfl)) (fun _ _ => rfl)) pa_nil)))) pss_nil)
        (pss_cons (ps_if (pt_cmpR op_eq (kx_ixT (K := K) rfl (kx_ixL (K := K) rfl (pv 0) (pv 1) (fun _ _ => rfl)) pe_int (fun _ _ => rfl)) pe_str (nomark _)) (pss_one (ps_ret (pe_lst (pa_cons (kx_ixL (K := K) rfl (pv 4) (kx_ixL (K := K) rfl (pv 3) (pv 1) (fun _ _ => rfl)) (fun _ _ => rfl)) pa_nil)))) pss_nil)
        (pss_one (ps_ret (pv 4)))))), fun as R hS => ?_⟩
  obtain ⟨g, i, so, st, rfl, hg, hi, hso, hst, hR⟩ := hS
  refine hs_seq (hs_asg (d := eNs (pat g i).tgs) (ev_call (as := [.dat (eG g), .dat (eN i)]) (by walk_at "ev") fun R' hR' => ⟨g, i, rfl, hg, hi, hR'⟩) ?_)
  refine hs_seq (hs_if (b := (pat g i).is_ours) (eb_test (ev_k_ours (ev_ixG (ev_var rfl) (ev_var rfl) hi))) (fun h => ?_) (fun h => hs_next ?_))
  · have hs : (pat g i).side = some .us := by
      cases hp : pat g i <;> rw [hp] at h <;> first | rfl | cases h
    rw [ch2_us hi hs] at hR
    exact hs_ret (EvN.f (en_lst (ds := [_]) (ea_dat (ev_tgt hso hi hs (EvD.l (ev_var rfl)) (EvD.l (ev_var rfl)) (ev_var rfl)) ea_nil) (by show 1 ≤ 100000; decide))) hR
  refine hs_seq (hs_if (b := (pat g i).is_theirs) (eb_test (ev_k_theirs (ev_ixG (ev_var rfl) (ev_var rfl) hi))) (fun h2 => ?_) (fun h2 => hs_next ?_))
  · have hs : (pat g i).side = some .them := by
      cases hp : pat g i <;> rw [hp] at h2 <;> first | rfl | cases h2
    rw [ch2_them hi hs] at hR
    exact hs_ret (EvN.f (en_lst (ds := [_]) (ea_dat (ev_tgt hst hi hs (EvD.l (ev_var rfl)) (EvD.l (ev_var rfl)) (ev_var rfl)) ea_nil) (by show 1 ≤ 100000; decide))) hR
  · have hs : (pat g i).side = none := by
      cases hp : pat g i <;> rw [hp] at h h2 <;> first | rfl | exact Bool.noConfusion (show true = false from h) | exact Bool.noConfusion (show true = false from h2)
    rw [ch2_no hi hs] at hR
    exact hs_ret (ev_var rfl) hR
end
end G
end
section
set_option Elab.async false
set_option linter.all false
set_option maxRecDepth 100000
set_option maxHeartbeats 4000000
set_option exponentiation.threshold 3000
/-! walks of the law: what reaches a finish, lines -/
namespace G
open PySem PySem.Spec PyProof.Rows L2
local macro_rules | `(tactic| walk_at "ev") => `(tactic| repeat' (first
  | ((with_reducible refine' ev_var ?_); rfl) | ((with_reducible refine' EvD.l (ev_var ?_)); rfl) | ((with_reducible refine' el_bor ?_); rfl) | ((with_reducible refine' EvC.l (ec_var ?_)); rfl) | ((with_reducible refine' evv_var ?_); rfl) | with_reducible exact ev_int | with_reducible exact ev_str | with_reducible exact ev_bl | with_reducible exact ev_non
  | ((with_reducible refine' Tx.evN ?_); assumption) | ((with_reducible refine' Tx.evO ?_); assumption)
  | with_reducible exact ea_nil | with_reducible refine' ea_dat ?_ ?_ | with_reducible refine' ea_bor ?_ ?_ | with_reducible refine' ea_val ?_ ?_
  | with_reducible refine' ev_add ?_ ?_ | with_reducible refine' ev_sub ?_ ?_ | with_reducible refine' ev_mulW ?_ ?_ ?_ | with_reducible refine' ev_neg ?_ | with_reducible refine' ev_cmp ?_ ?_
  | with_reducible refine' ev_q0 ?_ | with_reducible refine' ev_q1 ?_
  | with_reducible refine' ev_k_draw ?_ | with_reducible refine' ev_k_ours ?_ | with_reducible refine' ev_k_theirs ?_ | with_reducible refine' ev_k_reward ?_ | with_reducible refine' ev_k_fin ?_ | with_reducible refine' ev_k_lose ?_
  | with_reducible refine' ev_n_draw ?_ | with_reducible refine' ev_n_ours ?_ | with_reducible refine' ev_n_theirs ?_ | with_reducible refine' ev_n_reward ?_ | with_reducible refine' ev_n_fin ?_ | with_reducible refine' ev_n_lose ?_
  | with_reducible refine' ev_side ?_ ?_ | with_reducible refine' ev_kind ?_
  | with_reducible refine' eb_test ?_ | with_reducible refine' eb_B ?_ | with_reducible refine' ev_int1 ?_ | with_reducible refine' eb_not ?_ | with_reducible refine' eb_or ?_ (fun _ => ?_) | with_reducible refine' eb_and ?_ (fun _ => ?_) | with_reducible refine' ev_t0 ?_ | with_reducible refine' ev_t1 ?_ | with_reducible refine' ev_t2 ?_))
local macro_rules | `(tactic| walk_at "ifT") => `(tactic| (refine' hs_seq (hs_ifT (b := _) ?h ?n ?e); (case h => walk_at "ev"); (case e => rfl)))
local macro_rules | `(tactic| walk_at "ifF") => `(tactic| (refine' hs_seq (hs_ifF (b := _) ?h (hs_next ?n) ?e); (case h => walk_at "ev"); (case e => rfl)))
/-- a game and two strategies -/
structure Gs (g : Game) (so st : Strat) : Prop where
  gok : GOk g
  us : StOk .us g so
  them : StOk .them g st
theorem Gs.ck {g : Game} {so st : Strat} (h : Gs g so st) : Ck (ch2 g so st) := ck_ch2 h.gok h.us h.them
theorem Gs.n {g : Game} {so st : Strat} (h : Gs g so st) : g.length ≤ 12 := h.gok.len
theorem Gs.few {g : Game} {so st : Strat} (h : Gs g so st) {i : Nat} (hi : i < g.length) : (pat (ch2 g so st) i).tgs.length ≤ 6 := by
  cases hs : (pat g i).side with
  | some s =>
    cases s with
    | us => rw [ch2_us hi hs]; show 1 ≤ 6; decide
    | them => rw [ch2_them hi hs]; show 1 ≤ 6; decide
  | none => rw [ch2_no hi hs]; exact gok_few h.gok hi
section
variable {Pg : Program} {w : World} {K : PySem.W.Frag} {mg : Str → Option Value} {base : Heap} {aN aO : Addr}
theorem ev_leng {ρ : List Sl} {ta : TE} {g : Game} (h : EvD K w ta ρ (eG g)) : EvD K w (tCB (fun xs H Q => ∃ p ys, xs = [V.ref p] ∧ (SqL K H p ys ∨ SqT K H p ys) ∧ Q (.int ys.length) H) (tCons ta tNil)) ρ (.int ((g.length : Nat) : Int)) := (ev_len (EvD.l h)).is (by rw [List.length_map])
theorem ev_goals {E : XK} {ρ : List Sl} {ta tb tc td : TE} {g : Game} {so st : Strat} {i : Nat} (h : Gs g so st) (hi : i < g.length) (ha : EvD K w ta ρ (eG g)) (hb : EvD K w tb ρ (eN i)) (hc : EvD K w tc ρ (eSt so)) (hd : EvD K w td ρ (eSt st)) :
    EvD K w (tCall (spD K S_lgoals) [] E (tCons ta (tCons tb (tCons tc (tCons td tNil))))) ρ (eNs (pat (ch2 g so st) i).tgs) :=
  ev_call (as := [.dat (eG g), .dat (eN i), .dat (eSt so), .dat (eSt st)]) (ea_dat ha (ea_dat hb (ea_dat hc (ea_dat hd ea_nil)))) fun R' hR' => ⟨g, i, so, st, rfl, gok_gw h.gok, hi, h.us, h.them, hR'⟩
/-! _law_reaching: level 3; slots 0 _law_game_here, 1 _law_ours, 2 _law_theirs, 3 _law_found, 4 _law_step, 5 _law_more, 6 _law_k, 7 _law_goal; calls ['_law_goals 2'] -/
abbrev s__law_reaching : Stmt := topS 53
theorem sc__law_reaching : FnScope ["_law_game_here", "_law_ours", "_law_theirs", "_law_found", "_law_step", "_law_more", "_law_k", "_law_goal"] ["_law_game_here", "_law_ours", "_law_theirs"] (defScope s__law_reaching) := ⟨rfl, rfl, rfl, by decide +kernel, rfl, by decide +kernel, by decide +kernel⟩
def S_reaching : List Ar → (PyData → Prop) → Prop := fun as R => ∃ (g : Game) (so st : Strat), as = [.dat (eG g), .dat (eSt so), .dat (eSt st)] ∧ Gs g so st ∧ ∀ l : List Nat, l.Nodup → (∀ x, x ∈ l ↔ x < g.length ∧ Rf (ch2 g so st) x) → R (eNs l)
theorem ok__law_reaching {f : Addr} {fd : FuncData} (T : Tx K mg aN aO) (F : Fun K "_law_reaching" "_law_reaching" s__law_reaching f fd) (c__law_goals : Cal Pg w K mg base 2 "_law_goals" (spD K S_lgoals)) : FnOk Pg w K mg base CX0 3 f fd ["_law_game_here", "_law_ours", "_law_theirs"] (spD K S_reaching) := by
  refine fok F sc__law_reaching (fun as R h => ?len) fun cdv A outer s H E hr => ?_
  case len => obtain ⟨_, _, _, rfl, _⟩ := h; rfl
  have nd := sc__law_reaching.nd
  refine ⟨_, (pss_cons (ps_asg (pe_lc (own := [("_law_k", 6)]) (g := (gName 6)) (by rfl) nd (pi_range1 (by rfl) T.range (pa_cons (kx_len (K := K) rfl (by rfl) T.len (pa_cons (pv 0) pa_nil)) pa_nil)) (blkOk_by (N := ["_law_game_here", "_law_ours", "_law_theirs", "_law_found", "_law_step", "_law_more", "_law_k", "_law_goal"]) (sc := defScope s__law_reaching) (by decide +kernel)) (fun _ _ _ _ _ => (pg_name (i := 6) nd rfl (Or.inl rfl))) (fun _ _ _ _ _ => (pts_one (pt_cmpR op_eq (kx_ixT (K := K) rfl (kx_ixL (K := K) rfl (pv 0) (pv 6) (fun _ _ => rfl)) pe_int (fun _ _ => rfl)) pe_str (nomark _)))) (fun _ _ _ _ _ => (pv 6))) (pg_name (i := 3) nd rfl (Or.inr rfl)))
        (pss_cons (ps_for PassesOwn.never rfl (pi_range1 (by rfl) T.range (pa_cons (kx_len (K := K) rfl (by rfl) T.len (pa_cons (pv 0) pa_nil)) pa_nil)) (pg_name (i := 4) nd rfl (Or.inl rfl)) (pss_cons (ps_set (i := 5) nd rfl (Or.inl rfl) (pe_lst pa_nil))
        (pss_cons (ps_for PassesOwn.never rfl (pi_range1 (by rfl) T.range (pa_cons (kx_len (K := K) rfl (by rfl) T.len (pa_cons (pv 0) pa_nil)) pa_nil)) (pg_name (i := 6) nd rfl (Or.inl rfl)) (pss_one (ps_if (PW.pt (pw_and (kt_ni (K := K) rfl (pv 6) (pv 3) rfl) (pw_and1 (pt_val (kx_any (K := K) rfl rfl (by rfl) T.any (pa_cons (pe_lc (own := [("_law_goal", 7)]) (g := (gName 7)) (by rfl) nd (ki_list (K := K) rfl (pe_c c__law_goals hr (by decide) (by rfl) (pa_cons (pv 0) (pa_cons (pv 6) (pa_cons (pv 1) (pa_cons (pv 2) pa_nil)))))) (blkOk_by (N := ["_law_game_here", "_law_ours", "_law_theirs", "_law_found", "_law_step", "_law_more", "_law_k", "_law_goal"]) (sc := defScope s__law_reaching) (by decide +kernel)) (fun _ _ _ _ _ => (pg_name (i := 7) nd rfl (Or.inl rfl))) (fun _ _ _ _ _ => pts_nil) (fun _ _ _ _ _ => (kx_in (K := K) rfl (pv 7) (pv 3) rfl))) pa_nil)))))) (pss_one (ps_expr (kx_append (K := K) rfl (pv 5) (pa_cons (pv 6) pa_nil)))) pss_nil)))
        (pss_one (ps_set (i := 3) nd rfl (Or.inr rfl) (pe_op op_cat (pv 3) (pv 5)))))))
        (pss_one (ps_ret (pv 3))))), fun as R hS => ?_⟩
  obtain ⟨g, so, st, rfl, hgs, hR⟩ := hS
  have hn := hgs.n
  have hcl : (ch2 g so st).length = g.length := ch2_len g so st
  refine hs_seq (hs_asgN (en_lc (enc := eN) (List.range g.length) (fun i => (pat (ch2 g so st) i).isFin) eN (ei_rangeN (ev_leng (ev_var rfl)) (by omega)) (by rw [List.length_range]; omega) fun i hi => ⟨_, .name 6 (eN i), (eb_test (ev_k_fin (ev_ixG (ev_var rfl) (ev_var rfl) (List.mem_range.mp hi)))).is (by rw [ch2_fin (List.mem_range.mp hi), is_fin_eq]), fun _ => ev_var rfl⟩) ?_)
  refine hs_seq (hs_forN g.length (fun t ρ => ∃ (l : List Nat) (x4 x5 x6 : Sl), ρ = [.dat (eG g), .dat (eSt so), .dat (eSt st), .lis (l.map eN), x4, x5, x6, .any] ∧ RcOk (ch2 g so st) t l) (ei_rangeN (ev_leng (ev_var rfl)) (by omega)) ⟨(List.range g.length).filter fun i => (pat (ch2 g so st) i).isFin, .any, .any, .any, rfl, by have := RcOk.start (c := ch2 g so st); rw [hcl] at this; exact this⟩ (fun t ρ ht hρ => ?_) (fun ρ hρ => ?_))
  · obtain ⟨l, x4, x5, x6, rfl, hl⟩ := hρ
    have hll := hl.len
    rw [hcl] at hll
    refine hg_name ?_
    refine hs_seq (hs_asgN (en_lst (ds := []) ea_nil (by show 0 ≤ 100000; decide)) ?_)
    refine hs_seq (hs_forN g.length (fun i ρ => ∃ (x6 : Sl), ρ = [.dat (eG g), .dat (eSt so), .dat (eSt st), .lis (l.map eN), .dat (eN t), .lis (((List.range i).filter (cnd (ch2 g so st) l)).map eN), x6, .any]) (ei_rangeN (ev_leng (ev_var rfl)) (by omega)) ⟨_, rfl⟩ (fun i ρ hi hρ => ?_) (fun ρ hρ => ?_))
    · obtain ⟨x6, rfl⟩ := hρ
      have hfew := hgs.few hi
      refine hg_name ?_
      have et : (List.range (i + 1)).filter (cnd (ch2 g so st) l) = (List.range i).filter (cnd (ch2 g so st) l) ++ (if cnd (ch2 g so st) l i = true then [i] else []) := by
        rw [List.range_succ, List.filter_append, List.filter_cons]
        split <;> rfl
      refine hs_if (b := cnd (ch2 g so st) l i) (eb_and (eb_test (ev_niN (ev_var rfl) (EvC.l (ec_var rfl)))) fun _ => eb_B (ev_any (bs := (pat (ch2 g so st) i).tgs.map fun x => decide (x ∈ l)) (EvN.l ((en_map (enc := eN) (pat (ch2 g so st) i).tgs (fun x => .bool (decide (x ∈ l))) (ei_list (ev_goals hgs hi (ev_var rfl) (ev_var rfl) (ev_var rfl) (ev_var rfl))) (by omega) fun x hx => ⟨_, .name 7 (eN x), ev_inN (ev_var rfl) (EvC.l (ec_var rfl))⟩).is (by rw [List.map_map]; rfl))))) (fun h => ?_) (fun h => hs_next ?_)
      · refine hs_append (i := 5) rfl (ev_var rfl) (by rw [List.length_map]; exact Nat.lt_of_le_of_lt (List.length_filter_le _ _) (by rw [List.length_range]; omega)) ⟨.dat (eN i), ?_⟩
        rw [et, if_pos h, List.map_append]
        rfl
      · refine ⟨.dat (eN i), ?_⟩
        rw [et, if_neg (by rw [h]; decide), List.append_nil]
        rfl
    · obtain ⟨x6, rfl⟩ := hρ
      have hml : ((List.range g.length).filter (cnd (ch2 g so st) l)).length ≤ 12 := Nat.le_trans (List.length_filter_le _ _) (by rw [List.length_range]; omega)
      refine hs_asgN (en_cat (ec_var rfl) (ec_var rfl) (by rw [List.length_map, List.length_map]; omega)) ?_
      refine ⟨l ++ more (ch2 g so st) l, .dat (eN t), .lis (((List.range g.length).filter (cnd (ch2 g so st) l)).map eN), x6, ?_, hl.step⟩
      unfold more
      rw [List.map_append, hcl]
      rfl
  · obtain ⟨l, x4, x5, x6, rfl, hl⟩ := hρ
    rw [← hcl] at hl
    refine hs_retF (i := 3) rfl (hR l hl.nd fun x => ?_)
    rw [← hcl]
    exact hl.done x
def S_lmean : List Ar → (PyData → Prop) → Prop := fun as R => ∃ (g : Game) (i : Nat) (bs : List (Rat × Nat)) (f : Nat → Rat), as = [.dat (eG g), .dat (eN i), .dat (eFq g.length f)] ∧ i < g.length ∧ pat g i = .draw bs ∧ bs.length ≤ 6 ∧ (∀ b ∈ bs, Sm 10 b.1 ∧ b.2 < g.length) ∧ (∀ k, k < g.length → Sm 67 (f k)) ∧ R (num (mean bs f))
theorem mean_snoc (bs : List (Rat × Nat)) (b : Rat × Nat) (y : Nat → Rat) : mean (bs ++ [b]) y = mean bs y + b.1 * y b.2 := by
  unfold mean
  rw [List.map_append]
  exact sum_snoc _ _
theorem sm_mean {bs : List (Rat × Nat)} {f : Nat → Rat} (h : ∀ b ∈ bs, Sm 77 (b.1 * f b.2)) : ∀ j, j ≤ bs.length → Sm (1 + 78 * j) (mean (bs.take j) f)
  | 0, _ => by rw [List.take_zero]; exact Sm.zero
  | j + 1, hj => by
    have ih := sm_mean h j (by omega)
    have hb := h bs[j] (List.getElem_mem _)
    rw [List.take_add_one, List.getElem?_eq_getElem (by omega)]
    show Sm _ (mean (bs.take j ++ [bs[j]]) f)
    rw [mean_snoc]
    exact (ih.add hb).mono (by omega)
/-! _law_mean: level 3; slots 0 _law_game_here, 1 _law_place_here, 2 _law_numbers, 3 _law_found, 4 _law_chance, 5 _law_goal; calls ['_law_add 2', '_law_mul 2'] -/
abbrev s__law_mean : Stmt := topS 64
theorem sc__law_mean : FnScope ["_law_game_here", "_law_place_here", "_law_numbers", "_law_found", "_law_chance", "_law_goal"] ["_law_game_here", "_law_place_here", "_law_numbers"] (defScope s__law_mean) := ⟨rfl, rfl, rfl, by decide +kernel, rfl, by decide +kernel, by decide +kernel⟩
theorem ok__law_mean {f : Addr} {fd : FuncData} (T : Tx K mg aN aO) (F : Fun K "_law_mean" "_law_mean" s__law_mean f fd) (c__law_add : Cal Pg w K mg base 2 "_law_add" (spD K (S_ltwo (· + ·)))) (c__law_mul : Cal Pg w K mg base 2 "_law_mul" (spD K (S_ltwo (· * ·)))) : FnOk Pg w K mg base CX0 3 f fd ["_law_game_here", "_law_place_here", "_law_numbers"] (spD K S_lmean) := by
  refine fok F sc__law_mean (fun as R h => ?len) fun cdv A outer s H E hr => ?_
  case len => obtain ⟨_, _, _, _, rfl, _⟩ := h; rfl
  have nd := sc__law_mean.nd
  refine ⟨_, (pss_cons (ps_set (i := 3) nd rfl (Or.inl rfl) (pe_tup (pa_cons pe_int (pa_cons pe_int pa_nil))))
        (pss_cons (ps_for PassesOwn.never rfl (ki_list (K := K) rfl (kx_ixT (K := K) rfl (kx_ixL (K := K) rfl (pv 0) (pv 1) (fun _ _ => rfl)) pe_int (fun _ _ => rfl))) (kg_tup (K := K) (n := 2) rfl rfl (pgs_cons (pg_name (i := 4) nd rfl (Or.inl rfl)) (pgs_cons (pg_name (i := 5) nd rfl (Or.inl rfl)) pgs_nil))) (pss_one (ps_set (i := 3) nd rfl (Or.inl rfl) (pe_c c__law_add hr (by decide) (by rfl) (pa_cons (pv 3) (pa_cons (pe_c c__law_mul hr (by decide) (by rfl) (pa_cons (pv 4) (pa_cons (kx_ixL (K := K) rfl (pv 2) (pv 5) (fun _ _ => rfl)) pa_nil))) pa_nil))))))
        (pss_one (ps_ret (pv 3))))), fun as R hS => ?_⟩
  obtain ⟨g, i, bs, f, rfl, hi, hp, hl, hb, hf, hR⟩ := hS
  have hbr : ∀ {ρ : List Sl}, ρ[0]? = some (.dat (eG g)) → ρ[1]? = some (.dat (eN i)) → EvD K w (tOp (rIxT K) (tOp (rIxL K) (tVar 0) (tVar 1)) (tC (.int 1))) ρ (.list (bs.map eB)) := fun h0 h1 => by
    have := ev_ixG (K := K) (w := w) (ev_var h0) (ev_var h1) hi
    rw [hp] at this
    exact ev_t1 this
  have hpr : ∀ b ∈ bs, Sm 77 (b.1 * f b.2) := fun b h => ((hb b h).1.mul (hf _ (hb b h).2)).mono (by decide)
  have hsm : ∀ j, j ≤ bs.length → Sm 500 (mean (bs.take j) f) := fun j hj => (sm_mean hpr j hj).mono (by omega)
  refine hs_seq (hs_asg (d := num 0) (ev_tup (ds := [_, _]) (ea_dat ev_int (ea_dat ev_int ea_nil)) (by show 2 ≤ 100000; decide)) ?_)
  refine hs_seq (hs_forM bs (enc := eB) (fun j ρ => ∃ x4 x5, ρ = [.dat (eG g), .dat (eN i), .dat (eFq g.length f), .dat (num (mean (bs.take j) f)), x4, x5]) (ei_listM (hbr rfl rfl)) ⟨_, _, rfl⟩ (fun j b ρ hj hρ => ?_) (fun ρ hρ => ?_))
  · obtain ⟨x4, x5, rfl⟩ := hρ
    have hbm : b ∈ bs := List.mem_of_getElem? hj
    have hjl : j < bs.length := (List.getElem?_eq_some_iff.mp hj).1
    have htk : bs.take (j + 1) = bs.take j ++ [b] := by rw [List.take_add_one, hj]; rfl
    refine hg_pair ?_
    have s1 := hsm j (by omega)
    have s2 := hpr b hbm
    have s3 := (hb b hbm).1
    have s4 := hf _ (hb b hbm).2
    refine hs_asg (d := num (mean (bs.take j) f + b.1 * f b.2)) (ev_call (as := [.dat (num (mean (bs.take j) f)), .dat (num (b.1 * f b.2))]) (ea_dat (ev_var rfl) (ea_dat (ev_call (as := [.dat (num b.1), .dat (num (f b.2))]) (ea_dat (ev_var rfl) (ea_dat (ev_ixF (n := g.length) (f := fun k => num (f k)) (EvD.l (ev_var rfl)) (ev_var rfl) (hb b hbm).2) ea_nil)) fun R' hR' => ⟨_, _, rfl, s3.mono (by decide), s4.mono (by decide), lt_pow s3.2 s4.2 (by decide), hR'⟩) ea_nil)) fun R' hR' => ⟨_, _, rfl, s1.mono (by decide), s2.mono (by decide), lt_pow s1.2 s2.2 (by decide), hR'⟩) ?_
    refine ⟨.dat (num b.1), .dat (eN b.2), ?_⟩
    rw [htk, mean_snoc]
    rfl
  · obtain ⟨x4, x5, rfl⟩ := hρ
    rw [List.take_length]
    exact hs_ret (ev_var rfl) hR
end
end G
end
section
set_option Elab.async false
set_option linter.all false
set_option maxRecDepth 100000
set_option maxHeartbeats 4000000
set_option exponentiation.threshold 3000
/-! walks of the law: a line of its system -/
namespace G
open PySem PySem.Spec PyProof.Rows L2
local macro_rules | `(tactic| walk_at "ev") => `(tactic| repeat' (first
  | ((with_reducible refine' ev_var ?_); rfl) | ((with_reducible refine' EvD.l (ev_var ?_)); rfl) | ((with_reducible refine' el_bor ?_); rfl) | ((with_reducible refine' EvC.l (ec_var ?_)); rfl) | ((with_reducible refine' evv_var ?_); rfl) | with_reducible exact ev_int | with_reducible exact ev_str | with_reducible exact ev_bl | with_reducible exact ev_non
  | ((with_reducible refine' Tx.evN ?_); assumption) | ((with_reducible refine' Tx.evO ?_); assumption)
  | with_reducible exact ea_nil | with_reducible refine' ea_dat ?_ ?_ | with_reducible refine' ea_bor ?_ ?_ | with_reducible refine' ea_val ?_ ?_
  | with_reducible refine' ev_add ?_ ?_ | with_reducible refine' ev_sub ?_ ?_ | with_reducible refine' ev_mulW ?_ ?_ ?_ | with_reducible refine' ev_neg ?_ | with_reducible refine' ev_cmp ?_ ?_
  | with_reducible refine' ev_q0 ?_ | with_reducible refine' ev_q1 ?_
  | with_reducible refine' ev_k_draw ?_ | with_reducible refine' ev_k_ours ?_ | with_reducible refine' ev_k_theirs ?_ | with_reducible refine' ev_k_reward ?_ | with_reducible refine' ev_k_fin ?_ | with_reducible refine' ev_k_lose ?_
  | with_reducible refine' ev_n_draw ?_ | with_reducible refine' ev_n_ours ?_ | with_reducible refine' ev_n_theirs ?_ | with_reducible refine' ev_n_reward ?_ | with_reducible refine' ev_n_fin ?_ | with_reducible refine' ev_n_lose ?_
  | with_reducible refine' ev_side ?_ ?_ | with_reducible refine' ev_kind ?_
  | with_reducible refine' eb_test ?_ | with_reducible refine' eb_B ?_ | with_reducible refine' ev_int1 ?_ | with_reducible refine' eb_not ?_ | with_reducible refine' eb_or ?_ (fun _ => ?_) | with_reducible refine' eb_and ?_ (fun _ => ?_) | with_reducible refine' ev_t0 ?_ | with_reducible refine' ev_t1 ?_ | with_reducible refine' ev_t2 ?_))
local macro_rules | `(tactic| walk_at "ifT") => `(tactic| (refine' hs_seq (hs_ifT (b := _) ?h ?n ?e); (case h => walk_at "ev"); (case e => rfl)))
local macro_rules | `(tactic| walk_at "ifF") => `(tactic| (refine' hs_seq (hs_ifF (b := _) ?h (hs_next ?n) ?e); (case h => walk_at "ev"); (case e => rfl)))
/-- what goes on to a place without an end, of a line -/
noncomputable def lnk (c : Game) (bs : List (Rat × Nat)) (k : Nat) : Rat := if cd (Rf c k ∧ (pat c k).isFin = false) = true then psum bs k else 0
section
variable {Pg : Program} {w : World} {K : PySem.W.Frag} {mg : Str → Option Value} {base : Heap} {aN aO : Addr}
/-! _law_row: level 3; slots 0 _law_game_here, 1 _law_place_here, 2 _law_reaching_here, 3 _law_ours, 4 _law_theirs, 5 _law_row_here, 6 _law_done, 7 _law_branches, 8 _law_chance, 9 _law_goal, 10 _law_other; calls ['_law_goals 2', '_law_add 2'] -/
abbrev s__law_row : Stmt := topS 58
theorem sc__law_row : FnScope ["_law_game_here", "_law_place_here", "_law_reaching_here", "_law_ours", "_law_theirs", "_law_row_here", "_law_done", "_law_branches", "_law_chance", "_law_goal", "_law_other"] ["_law_game_here", "_law_place_here", "_law_reaching_here", "_law_ours", "_law_theirs"] (defScope s__law_row) := ⟨rfl, rfl, rfl, by decide +kernel, rfl, by decide +kernel, by decide +kernel⟩
def S_row : List Ar → (PyData → Prop) → Prop := fun as R => ∃ (g : Game) (i : Nat) (l : List Nat) (so st : Strat), as = [.dat (eG g), .dat (eN i), .dat (eNs l), .dat (eSt so), .dat (eSt st)] ∧ Gs g so st ∧ i < g.length ∧ (∀ x, x ∈ l ↔ x < g.length ∧ Rf (ch2 g so st) x) ∧
  R (.tuple [eFq g.length (lnk (ch2 g so st) (pat (ch2 g so st) i).br), num (mean (pat (ch2 g so st) i).br (kn (ch2 g so st)))])
theorem br_ok {c : Game} (hc : Ck c) {i : Nat} (hi : i < c.length) {b : Rat × Nat} (hb : b ∈ (pat c i).br) : BrOk c.length (pat c i).br := by
  refine hc.br i hi ?_ ?_
  · cases hp : pat c i with
    | fin => rw [hp] at hb; exact absurd hb List.not_mem_nil
    | _ => rfl
  · cases hp : pat c i with
    | lose => rw [hp] at hb; exact absurd hb List.not_mem_nil
    | _ => rfl
theorem br_sm {n : Nat} {bs : List (Rat × Nat)} (h : BrOk n bs) {b : Rat × Nat} (hb : b ∈ bs) : Sm 10 b.1 := by
  obtain ⟨q, hd⟩ := h.den
  obtain ⟨k, hk⟩ := hd.2.2 b hb
  obtain ⟨s1, s2⟩ := szq_of (x := b.1) (B := 1) hd.1 ⟨k, by rw [Rat.mul_comm, hk, Rat.intCast_natCast]⟩ (h.nn b hb) (by show _ ≤ (1 : Rat); exact h.ch1 hb)
  have h18 := hd.2.1
  have hp : (18 : Nat) < 2 ^ 10 := by decide
  exact ⟨by omega, by omega⟩
theorem ok__law_row {f : Addr} {fd : FuncData} (T : Tx K mg aN aO) (F : Fun K "_law_row" "_law_row" s__law_row f fd) (c__law_goals : Cal Pg w K mg base 2 "_law_goals" (spD K S_lgoals)) (c__law_add : Cal Pg w K mg base 2 "_law_add" (spD K (S_ltwo (· + ·)))) : FnOk Pg w K mg base CX0 3 f fd ["_law_game_here", "_law_place_here", "_law_reaching_here", "_law_ours", "_law_theirs"] (spD K S_row) := by
  refine fok F sc__law_row (fun as R h => ?len) fun cdv A outer s H E hr => ?_
  case len => obtain ⟨_, _, _, _, _, rfl, _⟩ := h; rfl
  have nd := sc__law_row.nd
  refine ⟨_, (pss_cons (ps_setLc (i := 5) (own := [("_law_other", 10)]) (g := (gName 10)) (by rfl) nd rfl rfl (sw_true rfl rfl rfl (by decide +kernel)) (ki_list (K := K) rfl (pv 0)) (blkOk_by (N := ["_law_game_here", "_law_place_here", "_law_reaching_here", "_law_ours", "_law_theirs", "_law_row_here", "_law_done", "_law_branches", "_law_chance", "_law_goal", "_law_other"]) (sc := defScope s__law_row) (by decide +kernel)) (fun _ _ _ _ _ => (pg_name (i := 10) nd rfl (Or.inl rfl))) (fun _ _ _ _ _ => pts_nil) (fun _ _ _ _ _ => (pe_tup (pa_cons pe_int (pa_cons pe_int pa_nil)))))
        (pss_cons (ps_set (i := 6) nd rfl (Or.inl rfl) (pe_tup (pa_cons pe_int (pa_cons pe_int pa_nil))))
        (pss_cons (ps_setLc (i := 7) (own := [("_law_goal", 9)]) (g := (gName 9)) (by rfl) nd rfl rfl (sw_true rfl rfl rfl (by decide +kernel)) (ki_list (K := K) rfl (pe_c c__law_goals hr (by decide) (by rfl) (pa_cons (pv 0) (pa_cons (pv 1) (pa_cons (pv 3) (pa_cons (pv 4) pa_nil)))))) (blkOk_by (N := ["_law_game_here", "_law_place_here", "_law_reaching_here", "_law_ours", "_law_theirs", "_law_row_here", "_law_done", "_law_branches", "_law_chance", "_law_goal", "_law_other"]) (sc := defScope s__law_row) (by decide +kernel)) (fun _ _ _ _ _ => (pg_name (i := 9) nd rfl (Or.inl rfl))) (fun _ _ _ _ _ => pts_nil) (fun _ _ _ _ _ => (pe_tup (pa_cons (pe_tup (pa_cons pe_int (pa_cons pe_int pa_nil))) (pa_cons (pv 9) pa_nil)))))
        (pss_cons (ps_if (pt_cmpR op_eq (kx_ixT (K := K) rfl (kx_ixL (K := K) rfl (pv 0) (pv 1) (fun _ _ => rfl)) pe_int (fun _ _ => rfl)) pe_str (nomark _)) (pss_one (ps_set (i := 7) nd rfl (Or.inl rfl) (kx_ixT (K := K) rfl (kx_ixL (K := K) rfl (pv 0) (pv 1) (fun _ _ => rfl)) pe_int (fun _ _ => rfl)))) pss_nil)
        (pss_cons (ps_for PassesOwn.never rfl (ki_list (K := K) rfl (pv 7)) (kg_tup (K := K) (n := 2) rfl rfl (pgs_cons (pg_name (i := 8) nd rfl (Or.inl rfl)) (pgs_cons (pg_name (i := 9) nd rfl (Or.inl rfl)) pgs_nil))) (pss_one (ps_if (pt_cmpR op_eq (kx_ixT (K := K) rfl (kx_ixL (K := K) rfl (pv 0) (pv 9) (fun _ _ => rfl)) pe_int (fun _ _ => rfl)) pe_str (nomark _)) (pss_one (ps_set (i := 6) nd rfl (Or.inl rfl) (pe_c c__law_add hr (by decide) (by rfl) (pa_cons (pv 6) (pa_cons (pv 8) pa_nil))))) (pss_one (ps_if (kt_in (K := K) rfl (pv 9) (pv 2) rfl) (pss_one (ps_asg (pe_c c__law_add hr (by decide) (by rfl) (pa_cons (kx_ixL (K := K) rfl (pv 5) (pv 9) (fun _ _ => rfl)) (pa_cons (pv 8) pa_nil))) (pg_sub (pv 5) (pv 9) set_list))) pss_nil)))))
        (pss_one (ps_ret (pe_tup (pa_cons (pv 5) (pa_cons (pv 6) pa_nil)))))))))), fun as R hS => ?_⟩
  obtain ⟨g, i, l, so, st, rfl, hgs, hi, hl, hR⟩ := hS
  have hn := hgs.n
  have hc := hgs.ck
  have hcl : (ch2 g so st).length = g.length := ch2_len g so st
  have hfew := hgs.few hi
  generalize hbs : (pat (ch2 g so st) i).br = bs at hR
  have hbr : ∀ b ∈ bs, BrOk g.length bs := fun b hb => by
    rw [← hbs, ← hcl]
    rw [← hbs] at hb
    exact br_ok hc (by rw [hcl]; exact hi) hb
  refine hs_seq (hs_asgN (ds := (List.range g.length).map fun _ => num 0) ((en_map (enc := ePl) g (fun _ => num 0) (ei_list (ev_var rfl)) (by omega) fun p hp => ⟨_, .name 10 (ePl p), ev_tup (ds := [_, _]) (ea_dat ev_int (ea_dat ev_int ea_nil)) (by show 2 ≤ 100000; decide)⟩).is ?_) ?_)
  · apply List.ext_getElem?
    intro j
    rw [List.getElem?_map, List.getElem?_map]
    by_cases h : j < g.length
    · rw [List.getElem?_range h, List.getElem?_eq_getElem h]; rfl
    · rw [List.getElem?_eq_none (by omega), List.getElem?_eq_none (by rw [List.length_range]; omega)]; rfl
  refine hs_seq (hs_asg (d := num 0) (ev_tup (ds := [_, _]) (ea_dat ev_int (ea_dat ev_int ea_nil)) (by show 2 ≤ 100000; decide)) ?_)
  refine hs_seq (hs_asg (d := .list ((pat (ch2 g so st) i).tgs.map fun x => .tuple [num 1, eN x])) (EvN.f (en_map (enc := eN) (pat (ch2 g so st) i).tgs (fun x => .tuple [num 1, eN x]) (ei_list (ev_goals hgs hi (ev_var rfl) (ev_var rfl) (ev_var rfl) (ev_var rfl))) (by omega) fun x hx => ⟨_, .name 9 (eN x), ev_tup (ds := [_, _]) (ea_dat (ev_tup (ds := [_, _]) (ea_dat ev_int (ea_dat ev_int ea_nil)) (by show 2 ≤ 100000; decide)) (ea_dat (ev_var rfl) ea_nil)) (by show 2 ≤ 100000; decide)⟩)) ?_)
  refine hs_seq_of (fun ρ => ρ = [.dat (eG g), .dat (eN i), .dat (eNs l), .dat (eSt so), .dat (eSt st), .lis ((List.range g.length).map fun _ => num 0), .dat (num 0), .dat (.list (bs.map eB)), .any, .any, .any]) (hs_if (b := (pat g i).is_draw) (eb_test (ev_k_draw (ev_ixG (ev_var rfl) (ev_var rfl) hi))) (fun h => ?_) (fun h => hs_next ?_)) fun ρ hρ => ?_
  · obtain ⟨bs', hp⟩ : ∃ bs', pat g i = .draw bs' := by
      cases hp : pat g i <;> rw [hp] at h <;> first | exact ⟨_, rfl⟩ | exact Bool.noConfusion (show false = true from h)
    have e1 : bs' = bs := by rw [← hbs, ch2_no hi (by rw [hp]; rfl), hp]; rfl
    subst e1
    have hix : ∀ {ρ : List Sl}, ρ[0]? = some (.dat (eG g)) → ρ[1]? = some (.dat (eN i)) → EvD K w (tOp (rIxT K) (tOp (rIxL K) (tVar 0) (tVar 1)) (tC (.int 1))) ρ (.list (bs'.map eB)) := fun h0 h1 => by
      have := ev_ixG (K := K) (w := w) (ev_var h0) (ev_var h1) hi
      rw [hp] at this
      exact ev_t1 this
    exact hs_asg (hix rfl rfl) rfl
  · have e1 : ((pat (ch2 g so st) i).tgs.map fun x => PyData.tuple [num 1, eN x]) = bs.map eB := by
      rw [← hbs]
      cases hs : (pat g i).side with
      | some s =>
        cases s with
        | us => rw [ch2_us hi hs]; rfl
        | them => rw [ch2_them hi hs]; rfl
      | none =>
        rw [ch2_no hi hs]
        cases hp : pat g i with
        | draw bs' => rw [hp] at h; exact Bool.noConfusion (show true = false from h)
        | ours ts => rw [hp] at hs; cases hs
        | theirs ts => rw [hp] at hs; cases hs
        | reward r x => rfl
        | fin => rfl
        | lose => rfl
    rw [e1]
    rfl
  subst hρ
  have c01 : ∀ k x : Nat, (0 : Rat) ≤ (if x = k then 1 else 0) ∧ (if x = k then (1 : Rat) else 0) ≤ 1 ∧ isI (if x = k then 1 else 0) := fun k x => by
    split
    · exact ⟨by decide, by decide, isI.one⟩
    · exact ⟨by decide, by decide, isI.zero⟩
  refine hs_seq (hs_forM bs (enc := eB) (fun j ρ => ∃ x8 x9, ρ = [.dat (eG g), .dat (eN i), .dat (eNs l), .dat (eSt so), .dat (eSt st), .lis ((List.range g.length).map fun k => num (lnk (ch2 g so st) (bs.take j) k)), .dat (num (mean (bs.take j) (kn (ch2 g so st)))), .dat (.list (bs.map eB)), x8, x9, .any]) (ei_listM (ev_var rfl)) ⟨.any, .any, ?_⟩ (fun j b ρ hj hρ => ?_) (fun ρ hρ => ?_))
  · have e : ((List.range g.length).map fun k => num (lnk (ch2 g so st) (bs.take 0) k)) = (List.range g.length).map fun _ => num 0 := by
      refine List.map_congr_left fun k _ => ?_
      unfold lnk
      split <;> rfl
    rw [e]
    rfl
  · obtain ⟨x8, x9, rfl⟩ := hρ
    have hbm : b ∈ bs := List.mem_of_getElem? hj
    have hbo := hbr b hbm
    have htk : bs.take (j + 1) = bs.take j ++ [b] := by rw [List.take_add_one, hj]; rfl
    have hbl := (hbo.pos b hbm).2
    have s1 := br_sm hbo hbm
    obtain ⟨q, hq⟩ := hbo.den
    have s2 : Sm 400 (mean (bs.take j) (kn (ch2 g so st))) := isI_take hbo hq (kn01 _) j
    have s3 : ∀ k, Sm 400 (psum (bs.take j) k) := fun k => by rw [psum_mean]; exact isI_take hbo hq (c01 k) j
    have hno : cd (Rf (ch2 g so st) b.2 ∧ (pat (ch2 g so st) b.2).isFin = false) = false → ((List.range g.length).map fun k => num (lnk (ch2 g so st) (bs.take (j + 1)) k)) = (List.range g.length).map fun k => num (lnk (ch2 g so st) (bs.take j) k) := fun z => by
      refine List.map_congr_left fun k _ => ?_
      unfold lnk
      rw [htk, psum_snoc]
      by_cases e : b.2 = k
      · subst e; rw [z, if_neg (by decide), if_neg (by decide)]
      · rw [if_neg e, Rat.add_zero]
    refine hg_pair ?_
    refine hs_if (b := (pat g b.2).is_fin) (eb_test (ev_k_fin (ev_ixG (ev_var rfl) (ev_var rfl) hbl))) (fun h => ?_) (fun h => ?_)
    · have hf : (pat (ch2 g so st) b.2).isFin = true := by rw [ch2_fin hbl, ← is_fin_eq]; exact h
      refine hs_asg (d := num (mean (bs.take j) (kn (ch2 g so st)) + b.1)) (ev_call (as := [.dat (num (mean (bs.take j) (kn (ch2 g so st)))), .dat (num b.1)]) (by walk_at "ev") fun R' hR' => ⟨_, _, rfl, s2.mono (by decide), s1.mono (by decide), lt_pow s2.2 s1.2 (by decide), hR'⟩) ?_
      refine ⟨.dat (num b.1), .dat (eN b.2), ?_⟩
      rw [hno (by
        refine Bool.eq_false_iff.mpr fun z => ?_
        have := (cd_iff.mp z).2
        rw [hf] at this; cases this), htk, mean_snoc]
      have e : kn (ch2 g so st) b.2 = 1 := if_pos hf
      rw [e, Rat.mul_one]
      rfl
    · have hf : (pat (ch2 g so st) b.2).isFin = false := by rw [ch2_fin hbl, ← is_fin_eq]; exact h
      have e0 : mean (bs.take (j + 1)) (kn (ch2 g so st)) = mean (bs.take j) (kn (ch2 g so st)) := by
        rw [htk, mean_snoc]
        have e : kn (ch2 g so st) b.2 = 0 := if_neg (by rw [hf]; decide)
        rw [e]; grind
      refine hs_if (b := decide (b.2 ∈ l)) (eb_test (ev_inN (ev_var rfl) (EvD.l (ev_var rfl)))) (fun h2 => ?_) (fun h2 => hs_next ?_)
      · have hr : Rf (ch2 g so st) b.2 := ((hl b.2).mp (of_decide_eq_true h2)).2
        have hcd : cd (Rf (ch2 g so st) b.2 ∧ (pat (ch2 g so st) b.2).isFin = false) = true := cd_iff.mpr ⟨hr, hf⟩
        have e1 : lnk (ch2 g so st) (bs.take j) b.2 = psum (bs.take j) b.2 := if_pos hcd
        have s4 := s3 b.2
        rw [← e1] at s4
        refine hs_setIn (i := 5) (k := b.2) rfl (d := num (lnk (ch2 g so st) (bs.take j) b.2 + b.1)) (ev_call (as := [.dat (num (lnk (ch2 g so st) (bs.take j) b.2)), .dat (num b.1)]) (ea_dat (ev_ixF (n := g.length) (f := fun k => num (lnk (ch2 g so st) (bs.take j) k)) (EvC.l (ec_var rfl)) (ev_var rfl) hbl) (ea_dat (ev_var rfl) ea_nil)) fun R' hR' => ⟨_, _, rfl, s4.mono (by decide), s1.mono (by decide), lt_pow s4.2 s1.2 (by decide), hR'⟩) (ev_var rfl) (by rw [List.length_map, List.length_range]; exact hbl) ?_
        refine ⟨.dat (num b.1), .dat (eN b.2), ?_⟩
        have e2 : (((List.range g.length).map fun k => num (lnk (ch2 g so st) (bs.take j) k)).set b.2 (num (lnk (ch2 g so st) (bs.take j) b.2 + b.1))) = (List.range g.length).map fun k => num (lnk (ch2 g so st) (bs.take (j + 1)) k) := by
          rw [set_range]
          refine List.map_congr_left fun k _ => ?_
          by_cases e : k = b.2
          · subst e
            rw [if_pos rfl]
            unfold lnk
            rw [if_pos hcd, if_pos hcd, htk, psum_snoc, if_pos rfl]
          · have e3 : psum (bs.take (j + 1)) k = psum (bs.take j) k := by rw [htk, psum_snoc, if_neg fun z => e z.symm, Rat.add_zero]
            rw [if_neg e]
            unfold lnk
            rw [e3]
        rw [e0, ← e2]
        rfl
      · refine ⟨.dat (num b.1), .dat (eN b.2), ?_⟩
        rw [e0, hno (by
          refine Bool.eq_false_iff.mpr fun z => ?_
          have h3 := (cd_iff.mp z).1
          exact of_decide_eq_false h2 ((hl b.2).mpr ⟨hbl, h3⟩))]
        rfl
  · obtain ⟨x8, x9, rfl⟩ := hρ
    rw [List.take_length]
    refine hs_freeze (i := 5) rfl ?_
    exact hs_ret (ev_tup (ds := [_, _]) (ea_dat (ev_var rfl) (ea_dat (ev_var rfl) ea_nil)) (by show 2 ≤ 100000; decide)) hR
end
end G
end
section
set_option Elab.async false
set_option linter.all false
set_option maxRecDepth 100000
set_option maxHeartbeats 4000000
set_option exponentiation.threshold 3000
/-! walks of the law: its own chances -/
namespace G
open PySem PySem.Spec PyProof.Rows L2
local macro_rules | `(tactic| walk_at "ev") => `(tactic| repeat' (first
  | ((with_reducible refine' ev_var ?_); rfl) | ((with_reducible refine' EvD.l (ev_var ?_)); rfl) | ((with_reducible refine' el_bor ?_); rfl) | ((with_reducible refine' EvC.l (ec_var ?_)); rfl) | ((with_reducible refine' evv_var ?_); rfl) | with_reducible exact ev_int | with_reducible exact ev_str | with_reducible exact ev_bl | with_reducible exact ev_non
  | ((with_reducible refine' Tx.evN ?_); assumption) | ((with_reducible refine' Tx.evO ?_); assumption)
  | with_reducible exact ea_nil | with_reducible refine' ea_dat ?_ ?_ | with_reducible refine' ea_bor ?_ ?_ | with_reducible refine' ea_val ?_ ?_
  | with_reducible refine' ev_add ?_ ?_ | with_reducible refine' ev_sub ?_ ?_ | with_reducible refine' ev_mulW ?_ ?_ ?_ | with_reducible refine' ev_neg ?_ | with_reducible refine' ev_cmp ?_ ?_
  | with_reducible refine' ev_q0 ?_ | with_reducible refine' ev_q1 ?_
  | with_reducible refine' ev_k_draw ?_ | with_reducible refine' ev_k_ours ?_ | with_reducible refine' ev_k_theirs ?_ | with_reducible refine' ev_k_reward ?_ | with_reducible refine' ev_k_fin ?_ | with_reducible refine' ev_k_lose ?_
  | with_reducible refine' ev_n_draw ?_ | with_reducible refine' ev_n_ours ?_ | with_reducible refine' ev_n_theirs ?_ | with_reducible refine' ev_n_reward ?_ | with_reducible refine' ev_n_fin ?_ | with_reducible refine' ev_n_lose ?_
  | with_reducible refine' ev_side ?_ ?_ | with_reducible refine' ev_kind ?_
  | with_reducible refine' eb_test ?_ | with_reducible refine' eb_B ?_ | with_reducible refine' ev_int1 ?_ | with_reducible refine' eb_not ?_ | with_reducible refine' eb_or ?_ (fun _ => ?_) | with_reducible refine' eb_and ?_ (fun _ => ?_) | with_reducible refine' ev_t0 ?_ | with_reducible refine' ev_t1 ?_ | with_reducible refine' ev_t2 ?_))
local macro_rules | `(tactic| walk_at "ifT") => `(tactic| (refine' hs_seq (hs_ifT (b := _) ?h ?n ?e); (case h => walk_at "ev"); (case e => rfl)))
local macro_rules | `(tactic| walk_at "ifF") => `(tactic| (refine' hs_seq (hs_ifF (b := _) ?h (hs_next ?n) ?e); (case h => walk_at "ev"); (case e => rfl)))
theorem en_ex {c : Game} {l : List Nat} (hnd : l.Nodup) (hl : ∀ x, x ∈ l ↔ x < c.length ∧ Rf c x) : ∃ (m : Nat) (u : Nat → Nat), (l.filter fun x => !(pat c x).isFin) = (List.range m).map u ∧ En c m u := by
  refine ⟨_, _, ?_, en_of hnd hl⟩
  apply List.ext_getElem?
  intro j
  rw [List.getElem?_map]
  by_cases h : j < (l.filter fun x => !(pat c x).isFin).length
  · rw [List.getElem?_range h]
    show _ = some (List.getD _ j 0)
    rw [List.getD_eq_getElem?_getD, List.getElem?_eq_getElem h]; rfl
  · rw [List.getElem?_eq_none (by omega), List.getElem?_eq_none (by rw [List.length_range]; omega)]; rfl
/-- a line as data -/
def rowD (n : Nat) (Rw : Nat → Nat → Rat) (Dn : Nat → Rat) (x : Nat) : PyData := .tuple [eFq n (Rw x), num (Dn x)]
/-- the lines, each at its stage -/
def RwOk (n m : Nat) (u : Nat → Nat) (P : Nat → Nat → Rat) (e : Nat → Nat) (Rw : Nat → Nat → Rat) (Dn : Nat → Rat) : Prop := ∀ j, j < m → (∀ k, k < n → Rw (u j) k = cl m u (stage P (e j) j) k) ∧ Dn (u j) = stage P (e j) j m
theorem RwOk.at_ {n m : Nat} {u : Nat → Nat} {P : Nat → Nat → Rat} {e : Nat → Nat} {Rw : Nat → Nat → Rat} {Dn : Nat → Rat} (h : RwOk n m u P e Rw Dn) {j : Nat} (hj : j < m) {x : Nat} (hx : e j = x) : (∀ k, k < n → Rw (u j) k = cl m u (stage P x j) k) ∧ Dn (u j) = stage P x j m := by
  subst hx; exact h j hj
theorem RwOk.keep {n m : Nat} {u : Nat → Nat} {P : Nat → Nat → Rat} {e e' : Nat → Nat} {Rw : Nat → Nat → Rat} {Dn : Nat → Rat} (h : RwOk n m u P e Rw Dn) {i : Nat} (ho : ∀ j, j < m → j ≠ i → e' j = e j) (hi : (∀ k, k < n → Rw (u i) k = cl m u (stage P (e' i) i) k) ∧ Dn (u i) = stage P (e' i) i m) : RwOk n m u P e' Rw Dn := fun j hj => by
  by_cases z : j = i
  · subst z; exact hi
  · rw [ho j hj z]; exact h j hj
theorem RwOk.eqv {n m : Nat} {u : Nat → Nat} {P : Nat → Nat → Rat} {e e' : Nat → Nat} {Rw : Nat → Nat → Rat} {Dn : Nat → Rat} (h : RwOk n m u P e Rw Dn) (ho : ∀ j, j < m → e' j = e j) : RwOk n m u P e' Rw Dn := fun j hj => by
  rw [ho j hj]; exact h j hj
theorem RwOk.put {n m : Nat} {u : Nat → Nat} {P : Nat → Nat → Rat} {e e' : Nat → Nat} {Rw : Nat → Nat → Rat} {Dn : Nat → Rat} (h : RwOk n m u P e Rw Dn) (inj : ∀ i j, i < m → j < m → u i = u j → i = j) {i : Nat} (hi : i < m) (x : Nat) (hx : e' i = x) (ho : ∀ j, j < m → j ≠ i → e' j = e j) : RwOk n m u P e' (fun y => if y = u i then cl m u (stage P x i) else Rw y) (fun y => if y = u i then stage P x i m else Dn y) := fun j hj => by
  by_cases z : j = i
  · subst z
    subst hx
    exact ⟨fun k _ => by show (if u j = u j then cl m u (stage P (e' j) j) else Rw (u j)) k = _; rw [if_pos rfl], if_pos rfl⟩
  · have hne : u j ≠ u i := fun w => z (inj j i hj hi w)
    rw [ho j hj z]
    have := h j hj
    exact ⟨fun k hk => by show (if u j = u i then cl m u (stage P x i) else Rw (u j)) k = _; rw [if_neg hne]; exact this.1 k hk, by show (if u j = u i then stage P x i m else Dn (u j)) = _; rw [if_neg hne]; exact this.2⟩
theorem rowD_set (n p : Nat) (Rw : Nat → Nat → Rat) (Dn : Nat → Rat) (r : Nat → Rat) (d : Rat) : ((List.range n).map (rowD n Rw Dn)).set p (.tuple [eFq n r, num d]) = (List.range n).map (rowD n (fun x => if x = p then r else Rw x) (fun x => if x = p then d else Dn x)) := by
  rw [set_range]
  refine List.map_congr_left fun k _ => ?_
  unfold rowD
  show _ = PyData.tuple [eFq n (if k = p then r else Rw k), num (if k = p then d else Dn k)]
  by_cases h : k = p
  · rw [if_pos h, if_pos h, if_pos h]
  · rw [if_neg h, if_neg h, if_neg h]
theorem cut_after {m t : Nat} (f : Nat → PyData) : cutD ((List.range m).map f) (some ((t : Int) + 1)) none = (List.range (m - (t + 1))).map fun s => f (t + 1 + s) := by
  unfold cutD
  have hl : ((List.range m).map f).length = m := by rw [List.length_map, List.length_range]
  rw [show ((t : Int) + 1) = ((t + 1 : Nat) : Int) from rfl, HT.sIx_nat, HT.sIx_none, hl]
  apply List.ext_getElem?
  intro j
  rw [List.getElem?_map, List.getElem?_take]
  by_cases h : j < m - (t + 1)
  · rw [if_pos (by omega), List.getElem?_drop, List.getElem?_map, List.getElem?_range h, show min (t + 1) m = t + 1 by omega, List.getElem?_range (by omega)]; rfl
  · rw [if_neg (by omega), List.getElem?_eq_none (by rw [List.length_range]; omega)]; rfl
theorem rev_range {α : Type} (m : Nat) (f : Nat → α) : ((List.range m).map f).reverse = (List.range m).map fun s => f (m - 1 - s) := by
  apply List.ext_getElem?
  intro j
  by_cases h : j < m
  · rw [List.getElem?_reverse (by rw [List.length_map, List.length_range]; exact h), List.getElem?_map, List.getElem?_map, List.length_map, List.length_range, List.getElem?_range (by omega), List.getElem?_range h]; rfl
  · rw [List.getElem?_eq_none (by rw [List.length_reverse, List.length_map, List.length_range]; omega), List.getElem?_eq_none (by rw [List.length_map, List.length_range]; omega)]
section
variable {Pg : Program} {w : World} {K : PySem.W.Frag} {mg : Str → Option Value} {base : Heap} {aN aO : Addr}
theorem ev_q01 {ρ : List Sl} : EvD K w (tTup (tCons (tC (.int 0)) (tCons (tC (.int 1)) tNil))) ρ (num 0) := ev_tup (ds := [_, _]) (ea_dat ev_int (ea_dat ev_int ea_nil)) (by show 2 ≤ 100000; decide)
theorem ev_q11 {ρ : List Sl} : EvD K w (tTup (tCons (tC (.int 1)) (tCons (tC (.int 1)) tNil))) ρ (num 1) := ev_tup (ds := [_, _]) (ea_dat ev_int (ea_dat ev_int ea_nil)) (by show 2 ≤ 100000; decide)
theorem ev_l2 {E : XK} {ρ : List Sl} {ta tb : TE} {op : Rat → Rat → Rat} {a b : Rat} {x y : Nat} (ha : EvD K w ta ρ (num a)) (hb : EvD K w tb ρ (num b)) (sa : Sm x a) (sb : Sm y b) (h : x + y ≤ 2000) : EvD K w (tCall (spD K (S_ltwo op)) [] E (tCons ta (tCons tb tNil))) ρ (num (op a b)) :=
  ev_call (as := [.dat (num a), .dat (num b)]) (ea_dat ha (ea_dat hb ea_nil)) fun R' hR' => ⟨_, _, rfl, sa.mono (by omega), sb.mono (by omega), lt_pow sa.2 sb.2 h, hR'⟩
theorem ev_ld {E : XK} {ρ : List Sl} {ta tb : TE} {a b : Rat} (ha : EvD K w ta ρ (num a)) (hb : EvD K w tb ρ (num b)) (sa : Sm 900 a) (sb : Sm 900 b) (h0 : b ≠ 0) : EvD K w (tCall (spD K S_ldiv) [] E (tCons ta (tCons tb tNil))) ρ (num (a / b)) :=
  ev_call (as := [.dat (num a), .dat (num b)]) (ea_dat ha (ea_dat hb ea_nil)) fun R' hR' => ⟨_, _, rfl, sa, sb, h0, hR'⟩
/-- a line's list, and its end -/
theorem ev_rw0 {ρ : List Sl} {ta tb : TE} {n p : Nat} {Rw : Nat → Nat → Rat} {Dn : Nat → Rat} (ha : EvL K w ta ρ ((List.range n).map (rowD n Rw Dn))) (hb : EvD K w tb ρ (eN p)) (hp : p < n) : EvD K w (tOp (rIxT K) (tOp (rIxL K) ta tb) (tC (.int 0))) ρ (eFq n (Rw p)) := ev_t0 (ds := [num (Dn p)]) (ev_ixF (n := n) (f := rowD n Rw Dn) ha hb hp)
theorem ev_rw1 {ρ : List Sl} {ta tb : TE} {n p : Nat} {Rw : Nat → Nat → Rat} {Dn : Nat → Rat} (ha : EvL K w ta ρ ((List.range n).map (rowD n Rw Dn))) (hb : EvD K w tb ρ (eN p)) (hp : p < n) : EvD K w (tOp (rIxT K) (tOp (rIxL K) ta tb) (tC (.int 1))) ρ (num (Dn p)) := ev_t1 (ds := []) (ev_ixF (n := n) (f := rowD n Rw Dn) ha hb hp)
theorem sm_sum {f : Nat → Rat} {b a : Nat} {d : Rat} (hd : Sm a d) (h : ∀ k, Sm b (f k)) : ∀ n, Sm (a + (b + 1) * n) (d + sg n f)
  | 0 => by rw [show d + sg 0 f = d from Rat.add_zero d]; exact hd.mono (by omega)
  | n + 1 => by
    have ih := sm_sum hd h n
    rw [show d + sg (n + 1) f = (d + sg n f) + f n by show d + (sg n f + f n) = _; grind]
    exact (ih.add (h n)).mono (by rw [Nat.mul_add]; omega)
/-! _law_solved: level 4; slots 0 _law_game_here, 1 _law_ours, 2 _law_theirs, 3 _law_reaching_here, 4 _law_left, 5 _law_rows, 6 _law_at, 7 _law_place_here, 8 _law_row_here, 9 _law_done, 10 _law_stay, 11 _law_other, 12 _law_by, 13 _law_turned, 14 _law_found, 15 _law_k, 16 _law_one, 17 _law_here; calls ['_law_reaching 3', '_law_row 3', '_law_sub 3', '_law_div 2', '_law_add 2', '_law_mul 2'] -/
abbrev s__law_solved : Stmt := topS 59
theorem sc__law_solved : FnScope ["_law_game_here", "_law_ours", "_law_theirs", "_law_reaching_here", "_law_left", "_law_rows", "_law_at", "_law_place_here", "_law_row_here", "_law_done", "_law_stay", "_law_other", "_law_by", "_law_turned", "_law_found", "_law_k", "_law_one", "_law_here"] ["_law_game_here", "_law_ours", "_law_theirs"] (defScope s__law_solved) := ⟨rfl, rfl, rfl, by decide +kernel, rfl, by decide +kernel, by decide +kernel⟩
def S_solved : List Ar → (PyData → Prop) → Prop := fun as R => ∃ (g : Game) (so st : Strat), as = [.dat (eG g), .dat (eSt so), .dat (eSt st)] ∧ Gs g so st ∧ ∀ v : Nat → Rat, IsVal (ch2 g so st) v → R (eFq g.length v)
theorem ok__law_solved {f : Addr} {fd : FuncData} (T : Tx K mg aN aO) (F : Fun K "_law_solved" "_law_solved" s__law_solved f fd) (c__law_reaching : Cal Pg w K mg base 3 "_law_reaching" (spD K S_reaching)) (c__law_row : Cal Pg w K mg base 3 "_law_row" (spD K S_row)) (c__law_sub : Cal Pg w K mg base 3 "_law_sub" (spD K (S_ltwo (· - ·)))) (c__law_div : Cal Pg w K mg base 2 "_law_div" (spD K S_ldiv)) (c__law_add : Cal Pg w K mg base 2 "_law_add" (spD K (S_ltwo (· + ·)))) (c__law_mul : Cal Pg w K mg base 2 "_law_mul" (spD K (S_ltwo (· * ·)))) : FnOk Pg w K mg base CX0 4 f fd ["_law_game_here", "_law_ours", "_law_theirs"] (spD K S_solved) := by
  refine fok F sc__law_solved (fun as R h => ?len) fun cdv A outer s H E hr => ?_
  case len => obtain ⟨_, _, _, rfl, _⟩ := h; rfl
  have nd := sc__law_solved.nd
  refine ⟨_, (pss_cons (ps_set (i := 3) nd rfl (Or.inr rfl) (pe_c c__law_reaching hr (by decide) (by rfl) (pa_cons (pv 0) (pa_cons (pv 1) (pa_cons (pv 2) pa_nil)))))
        (pss_cons (ps_setLc (i := 4) (own := [("_law_k", 15)]) (g := (gName 15)) (by rfl) nd rfl rfl (sw_true rfl rfl rfl (by decide +kernel)) (ki_list (K := K) rfl (pv 3)) (blkOk_by (N := ["_law_game_here", "_law_ours", "_law_theirs", "_law_reaching_here", "_law_left", "_law_rows", "_law_at", "_law_place_here", "_law_row_here", "_law_done", "_law_stay", "_law_other", "_law_by", "_law_turned", "_law_found", "_law_k", "_law_one", "_law_here"]) (sc := defScope s__law_solved) (by decide +kernel)) (fun _ _ _ _ _ => (pg_name (i := 15) nd rfl (Or.inl rfl))) (fun _ _ _ _ _ => (pts_one (pt_cmpR op_ne (kx_ixT (K := K) rfl (kx_ixL (K := K) rfl (pv 0) (pv 15) (fun _ _ => rfl)) pe_int (fun _ _ => rfl)) pe_str (nomark _)))) (fun _ _ _ _ _ => (pv 15)))
        (pss_cons (ps_asg (pe_lc (own := [("_law_k", 15)]) (g := (gName 15)) (by rfl) nd (pi_range1 (by rfl) T.range (pa_cons (kx_len (K := K) rfl (by rfl) T.len (pa_cons (pv 0) pa_nil)) pa_nil)) (blkOk_by (N := ["_law_game_here", "_law_ours", "_law_theirs", "_law_reaching_here", "_law_left", "_law_rows", "_law_at", "_law_place_here", "_law_row_here", "_law_done", "_law_stay", "_law_other", "_law_by", "_law_turned", "_law_found", "_law_k", "_law_one", "_law_here"]) (sc := defScope s__law_solved) (by decide +kernel)) (fun _ _ _ _ _ => (pg_name (i := 15) nd rfl (Or.inl rfl))) (fun _ _ _ _ _ => pts_nil) (fun _ _ _ _ _ => (pe_c c__law_row hr (by decide) (by rfl) (pa_cons (pv 0) (pa_cons (pv 15) (pa_cons (pv 3) (pa_cons (pv 1) (pa_cons (pv 2) pa_nil)))))))) (pg_name (i := 5) nd rfl (Or.inr rfl)))
        (pss_cons (ps_for PassesOwn.never rfl (pi_range1 (by rfl) T.range (pa_cons (kx_len (K := K) rfl (by rfl) T.len (pa_cons (pv 4) pa_nil)) pa_nil)) (pg_name (i := 6) nd rfl (Or.inl rfl)) (pss_cons (ps_set (i := 7) nd rfl (Or.inl rfl) (kx_ixL (K := K) rfl (pv 4) (pv 6) (fun _ _ => rfl)))
        (pss_cons (ps_asg (kx_ixL (K := K) rfl (pv 5) (pv 7) (fun _ _ => rfl)) (kg_tup (K := K) (n := 2) rfl rfl (pgs_cons (pg_name (i := 8) nd rfl (Or.inr rfl)) (pgs_cons (pg_name (i := 9) nd rfl (Or.inl rfl)) pgs_nil))))
        (pss_cons (ps_set (i := 10) nd rfl (Or.inr rfl) (pe_c c__law_sub hr (by decide) (by rfl) (pa_cons (pe_tup (pa_cons pe_int (pa_cons pe_int pa_nil))) (pa_cons (kx_ixL (K := K) rfl (pv 8) (pv 7) (fun _ _ => rfl)) pa_nil))))
        (pss_cons (ps_asg (pe_lc (own := [("_law_one", 16)]) (g := (gName 16)) (by rfl) nd (ki_list (K := K) rfl (pv 8)) (blkOk_by (N := ["_law_game_here", "_law_ours", "_law_theirs", "_law_reaching_here", "_law_left", "_law_rows", "_law_at", "_law_place_here", "_law_row_here", "_law_done", "_law_stay", "_law_other", "_law_by", "_law_turned", "_law_found", "_law_k", "_law_one", "_law_here"]) (sc := defScope s__law_solved) (by decide +kernel)) (fun _ _ _ _ _ => (pg_name (i := 16) nd rfl (Or.inl rfl))) (fun _ _ _ _ _ => pts_nil) (fun _ _ _ _ _ => (pe_c c__law_div hr (by decide) (by rfl) (pa_cons (pv 16) (pa_cons (pv 10) pa_nil))))) (pg_name (i := 8) nd rfl (Or.inr rfl)))
        (pss_cons (ps_asg (pe_tup (pa_cons pe_int (pa_cons pe_int pa_nil))) (pg_sub (pv 8) (pv 7) set_list))
        (pss_cons (ps_asg (pe_tup (pa_cons (pv 8) (pa_cons (pe_c c__law_div hr (by decide) (by rfl) (pa_cons (pv 9) (pa_cons (pv 10) pa_nil))) pa_nil))) (pg_sub (pv 5) (pv 7) set_list))
        (pss_one (ps_for PassesOwn.never rfl (ki_list (K := K) rfl (kx_slice (K := K) rfl (pv 4) (po_some (pe_op op_add (pv 6) pe_int)) po_none)) (pg_name (i := 11) nd rfl (Or.inr rfl)) (pss_cons (ps_set (i := 12) nd rfl (Or.inr rfl) (kx_ixL (K := K) rfl (kx_ixT (K := K) rfl (kx_ixL (K := K) rfl (pv 5) (pv 11) (fun _ _ => rfl)) pe_int (fun _ _ => rfl)) (pv 7) (fun _ _ => rfl)))
        (pss_one (ps_if (kt_neD (K := K) rfl hr (pv 12) (pe_tup (pa_cons pe_int (pa_cons pe_int pa_nil)))) (pss_cons (ps_setLc (i := 13) (own := [("_law_k", 15)]) (g := (gName 15)) (by rfl) nd rfl rfl (sw_true rfl rfl rfl (by decide +kernel)) (pi_range1 (by rfl) T.range (pa_cons (kx_len (K := K) rfl (by rfl) T.len (pa_cons (pv 0) pa_nil)) pa_nil)) (blkOk_by (N := ["_law_game_here", "_law_ours", "_law_theirs", "_law_reaching_here", "_law_left", "_law_rows", "_law_at", "_law_place_here", "_law_row_here", "_law_done", "_law_stay", "_law_other", "_law_by", "_law_turned", "_law_found", "_law_k", "_law_one", "_law_here"]) (sc := defScope s__law_solved) (by decide +kernel)) (fun _ _ _ _ _ => (pg_name (i := 15) nd rfl (Or.inl rfl))) (fun _ _ _ _ _ => pts_nil) (fun _ _ _ _ _ => (pe_c c__law_add hr (by decide) (by rfl) (pa_cons (kx_ixL (K := K) rfl (kx_ixT (K := K) rfl (kx_ixL (K := K) rfl (pv 5) (pv 11) (fun _ _ => rfl)) pe_int (fun _ _ => rfl)) (pv 15) (fun _ _ => rfl)) (pa_cons (pe_c c__law_mul hr (by decide) (by rfl) (pa_cons (pv 12) (pa_cons (kx_ixL (K := K) rfl (pv 8) (pv 15) (fun _ _ => rfl)) pa_nil))) pa_nil)))))
        (pss_cons (ps_asg (pe_tup (pa_cons pe_int (pa_cons pe_int pa_nil))) (pg_sub (pv 13) (pv 7) set_list))
        (pss_one (ps_asg (pe_tup (pa_cons (pv 13) (pa_cons (pe_c c__law_add hr (by decide) (by rfl) (pa_cons (kx_ixT (K := K) rfl (kx_ixL (K := K) rfl (pv 5) (pv 11) (fun _ _ => rfl)) pe_int (fun _ _ => rfl)) (pa_cons (pe_c c__law_mul hr (by decide) (by rfl) (pa_cons (pv 12) (pa_cons (kx_ixT (K := K) rfl (kx_ixL (K := K) rfl (pv 5) (pv 7) (fun _ _ => rfl)) pe_int (fun _ _ => rfl)) pa_nil))) pa_nil))) pa_nil))) (pg_sub (pv 5) (pv 11) set_list))))) pss_nil))))))))))))
        (pss_cons (ps_setLc (i := 14) (own := [("_law_here", 17)]) (g := (gName 17)) (by rfl) nd rfl rfl (sw_true rfl rfl rfl (by decide +kernel)) (ki_list (K := K) rfl (pv 0)) (blkOk_by (N := ["_law_game_here", "_law_ours", "_law_theirs", "_law_reaching_here", "_law_left", "_law_rows", "_law_at", "_law_place_here", "_law_row_here", "_law_done", "_law_stay", "_law_other", "_law_by", "_law_turned", "_law_found", "_law_k", "_law_one", "_law_here"]) (sc := defScope s__law_solved) (by decide +kernel)) (fun _ _ _ _ _ => (pg_name (i := 17) nd rfl (Or.inl rfl))) (fun _ _ _ _ _ => pts_nil) (fun _ _ _ _ _ => (pe_tup (pa_cons (pe_callTy call_int1 (by rfl) T.int_ (by decide +kernel) (pa_cons (pe_cmpR op_eq (kx_ixT (K := K) rfl (pv 17) pe_int (fun _ _ => rfl)) pe_str (nomark _)) pa_nil)) (pa_cons pe_int pa_nil)))))
        (pss_cons (ps_for PassesOwn.never rfl (ki_list (K := K) rfl (kx_rev (K := K) rfl (pv 4))) (pg_name (i := 7) nd rfl (Or.inl rfl)) (pss_cons (ps_asg (kx_ixL (K := K) rfl (pv 5) (pv 7) (fun _ _ => rfl)) (kg_tup (K := K) (n := 2) rfl rfl (pgs_cons (pg_name (i := 8) nd rfl (Or.inr rfl)) (pgs_cons (pg_name (i := 9) nd rfl (Or.inl rfl)) pgs_nil))))
        (pss_cons (ps_for PassesOwn.never rfl (pi_range1 (by rfl) T.range (pa_cons (kx_len (K := K) rfl (by rfl) T.len (pa_cons (pv 0) pa_nil)) pa_nil)) (pg_name (i := 15) nd rfl (Or.inl rfl)) (pss_one (ps_if (kt_neD (K := K) rfl hr (kx_ixL (K := K) rfl (pv 8) (pv 15) (fun _ _ => rfl)) (pe_tup (pa_cons pe_int (pa_cons pe_int pa_nil)))) (pss_one (ps_set (i := 9) nd rfl (Or.inl rfl) (pe_c c__law_add hr (by decide) (by rfl) (pa_cons (pv 9) (pa_cons (pe_c c__law_mul hr (by decide) (by rfl) (pa_cons (kx_ixL (K := K) rfl (pv 8) (pv 15) (fun _ _ => rfl)) (pa_cons (kx_ixL (K := K) rfl (pv 14) (pv 15) (fun _ _ => rfl)) pa_nil))) pa_nil))))) pss_nil)))
        (pss_one (ps_asg (pv 9) (pg_sub (pv 14) (pv 7) set_list))))))
        (pss_one (ps_ret (pv 14))))))))), fun as R hS => ?_⟩
  obtain ⟨g, so, st, rfl, hgs, hR⟩ := hS
  have hn := hgs.n
  have hc := hgs.ck
  have hcl : (ch2 g so st).length = g.length := ch2_len g so st
  refine hs_seq (hs_asgR (R := fun d => ∃ l : List Nat, d = eNs l ∧ l.Nodup ∧ ∀ x, x ∈ l ↔ x < g.length ∧ Rf (ch2 g so st) x) (evr_call (as := [.dat (eG g), .dat (eSt so), .dat (eSt st)]) (by walk_at "ev") fun R' hR' => ⟨g, so, st, rfl, hgs, fun l h1 h2 => hR' _ ⟨l, rfl, h1, h2⟩⟩) fun d hd => ?_)
  obtain ⟨l, rfl, hnd, hl⟩ := hd
  obtain ⟨m, u, hleft, hen⟩ := en_ex (c := (ch2 g so st)) hnd (by rw [hcl]; exact hl)
  have hll : l.length ≤ 12 := Nat.le_trans (nodup_le2 _ _ hnd fun a ha => ((hl a).mp ha).1) hn
  have hsq := En.sq hc hen
  have hsy := hsq.sy
  have hm := hsq.few
  have hul : ∀ j, j < m → u j < g.length := fun j hj => by rw [← hcl]; exact (hen.mem j hj).1
  generalize hP : (sysG (ch2 g so st) m u (kn (ch2 g so st))) = P at hsq hsy
  have hsc : ∀ e, e ≤ m → ∀ j, j < m → ∀ k, Sm 67 (cl m u (stage P e j) k) := fun e he j hj k => by
    rcases hit_or m u k with ⟨i, hi, rfl⟩ | h
    · rw [cl_u hen.inj hi]; exact hsq.sz1 he hj (by omega)
    · rw [cl_no h]; exact Sm.zero.mono (by decide)
  have hsd : ∀ e, e ≤ m → ∀ j, j < m → Sm 67 (stage P e j m) := fun e he j hj => hsq.sz1 he hj (Nat.le_refl m)
  refine hs_seq (hs_asg (d := eF m fun j => eN (u j)) ((EvN.f (en_lc (enc := eN) l (fun x => !(pat (ch2 g so st) x).isFin) eN (ei_list (ev_var rfl)) (by omega) fun x hx => ⟨_, .name 15 (eN x), (eb_test (ev_n_fin (ev_ixG (ev_var rfl) (ev_var rfl) ((hl x).mp hx).1))).is (by rw [ch2_fin ((hl x).mp hx).1, is_fin_eq]), fun _ => ev_var rfl⟩)).is ?_) ?_)
  · rw [hleft, List.map_map]; rfl
  refine hs_seq (hs_asgN (en_mapF (n := g.length) (enc := eN) (rowD g.length (fun x => lnk (ch2 g so st) (pat (ch2 g so st) x).br) (fun x => mean (pat (ch2 g so st) x).br (kn (ch2 g so st)))) (ei_rangeN (ev_leng (ev_var rfl)) (by omega)) (by omega) fun x hx => ⟨_, .name 15 (eN x), ev_call (as := [.dat (eG g), .dat (eN x), .dat (eNs l), .dat (eSt so), .dat (eSt st)]) (by walk_at "ev") fun R' hR' => ⟨g, x, l, so, st, rfl, hgs, hx, hl, hR'⟩⟩) ?_)
  have hlen : ∀ ρ : List Sl, ρ[4]? = some (.dat (eF m fun j => eN (u j))) → EvD K w (tCB (fun xs H Q => ∃ p ys, xs = [V.ref p] ∧ (SqL K H p ys ∨ SqT K H p ys) ∧ Q (.int ys.length) H) (tCons (tVar 4) tNil)) ρ (.int ((m : Nat) : Int)) := fun ρ h => (ev_len (EvD.l (ev_var h))).is (by rw [List.length_map, List.length_range])
  refine hs_seq (hs_forN m (fun t ρ => ∃ (Rw : Nat → Nat → Rat) (Dn : Nat → Rat) (x6 x7 x8 x9 x10 x11 x12 x13 : Sl), ρ = [.dat (eG g), .dat (eSt so), .dat (eSt st), .dat (eNs l), .dat (eF m fun j => eN (u j)), .lis ((List.range g.length).map (rowD g.length Rw Dn)), x6, x7, x8, x9, x10, x11, x12, x13, .any, .any, .any, .any] ∧ RwOk g.length m u P (fun j => min t (j + 1)) Rw Dn)
    (ei_rangeN (hlen _ rfl) (by omega)) ⟨_, _, .any, .any, .any, .any, .any, .any, .any, .any, rfl, fun j hj => ⟨fun k hk => ?_, ?_⟩⟩ (fun t ρ ht hρ => ?_) (fun ρ hρ => ?_))
  · show lnk (ch2 g so st) (pat (ch2 g so st) (u j)).br k = cl m u (stage P (min 0 (j + 1)) j) k
    rw [Nat.zero_min, ← hP]
    exact cl_start hen hj (by rw [hcl]; exact hk) _ rfl
  · show mean (pat (ch2 g so st) (u j)).br (kn (ch2 g so st)) = stage P (min 0 (j + 1)) j m
    rw [Nat.zero_min, ← hP, ← osum_kn hen]
    exact (sys_m j).symm
  · obtain ⟨Rw, Dn, x6, x7, x8, x9, x10, x11, x12, x13, rfl, hRw⟩ := hρ
    have hut := hul t ht
    have h0 : 1 - stage P t t t ≠ 0 := by
      have := (hsy.stage t (by omega)).piv (t := t) ht
      grind
    have hrt := hRw.at_ ht (x := t) (by show min t (t + 1) = t; omega)
    have hpp : Rw (u t) (u t) = stage P t t t := by rw [hrt.1 _ hut, cl_u hen.inj ht]
    have hst0 : 1 - Rw (u t) (u t) ≠ 0 := by rw [hpp]; exact h0
    have s1 : ∀ k, k < g.length → Sm 67 (Rw (u t) k) := fun k hk => by rw [hrt.1 k hk]; exact hsc t (by omega) t ht k
    have s2 : Sm 67 (Dn (u t)) := by rw [hrt.2]; exact hsd t (by omega) t ht
    have s3 : Sm 80 (1 - Rw (u t) (u t)) := (Sm.one.sub (s1 _ hut)).mono (by decide)
    refine hg_name ?_
    refine hs_seq (hs_asg (d := eN (u t)) (ev_ixF (n := m) (f := fun j => eN (u j)) (EvD.l (ev_var rfl)) (ev_var rfl) ht) ?_)
    refine hs_seq (hs_asgG (d := rowD g.length Rw Dn (u t)) (ev_ixF (n := g.length) (f := rowD g.length Rw Dn) (EvC.l (ec_var rfl)) (ev_var rfl) hut) (hg_pair ?_))
    refine hs_seq (hs_asg (d := num (1 - Rw (u t) (u t))) (ev_l2 (op := (· - ·)) ev_q11 (ev_ixF (n := g.length) (f := fun k => num (Rw (u t) k)) (EvD.l (ev_var rfl)) (ev_var rfl) hut) Sm.one (s1 _ hut) (by decide)) ?_)
    refine hs_seq (hs_asgN (en_mapF (n := g.length) (enc := fun k => num (Rw (u t) k)) (fun k => num (Rw (u t) k / (1 - Rw (u t) (u t)))) (ei_listF (ev_var rfl)) (by omega) fun k hk => ⟨_, .name 16 _, ev_ld (ev_var rfl) (ev_var rfl) ((s1 k hk).mono (by decide)) (s3.mono (by decide)) hst0⟩) ?_)
    refine hs_seq (hs_setIn (i := 8) (k := u t) rfl (d := num 0) ev_q01 (ev_var rfl) (by rw [List.length_map, List.length_range]; exact hut) ?_)
    have er : (((List.range g.length).map fun k => num (Rw (u t) k / (1 - Rw (u t) (u t)))).set (u t) (num 0)) = (List.range g.length).map fun k => num (cl m u (stage P (t + 1) t) k) := by
      rw [set_range]
      refine List.map_congr_left fun k hk => ?_
      show _ = num (cl m u (elim t (stage P t) t) k)
      rw [← cl_row hen.inj ht h0 k, hrt.1 k (List.mem_range.mp hk), hpp]
      split <;> rfl
    refine hs_freeze (i := 8) (ds := (List.range g.length).map fun k => num (cl m u (stage P (t + 1) t) k)) (by rw [← er]; rfl) ?_
    have ed : Dn (u t) / (1 - Rw (u t) (u t)) = stage P (t + 1) t m := by
      rw [hrt.2, hpp]
      exact done_row hen.inj ht h0
    refine hs_seq (hs_setIn (i := 5) (k := u t) rfl (d := .tuple [eFq g.length (cl m u (stage P (t + 1) t)), num (stage P (t + 1) t m)]) (ev_tup (ds := [_, _]) (ea_dat (ev_var rfl) (ea_dat ((ev_ld (ev_var rfl) (ev_var rfl) (s2.mono (by decide)) (s3.mono (by decide)) hst0).is (by rw [ed])) ea_nil)) (by show 2 ≤ 100000; decide)) (ev_var rfl) (by rw [List.length_map, List.length_range]; exact hut) ?_)
    rw [rowD_set]
    refine hs_forN (m - (t + 1)) (enc := fun s => eN (u (t + 1 + s))) (fun s ρ => ∃ (Rw : Nat → Nat → Rat) (Dn : Nat → Rat) (x9 x10 x11 x12 x13 : Sl), ρ = [.dat (eG g), .dat (eSt so), .dat (eSt st), .dat (eNs l), .dat (eF m fun j => eN (u j)), .lis ((List.range g.length).map (rowD g.length Rw Dn)), .dat (eN t), .dat (eN (u t)), .dat (eFq g.length (cl m u (stage P (t + 1) t))), x9, x10, x11, x12, x13, .any, .any, .any, .any] ∧ RwOk g.length m u P (fun j => if j < t + 1 + s then min (t + 1) (j + 1) else min t (j + 1)) Rw Dn)
      (ei_list ((EvN.f (en_slice (ds := (List.range m).map fun j => eN (u j)) (EvD.l (ev_var rfl)) (eo_some (ev_add (ev_var rfl) ev_int)) eo_none)).is (by rw [cut_after]))) ⟨_, _, _, _, _, _, _, rfl, hRw.put hen.inj ht (t + 1) (by show (if t < t + 1 + 0 then min (t + 1) (t + 1) else min t (t + 1)) = t + 1; rw [if_pos (by omega)]; omega) fun j hj hne => by
        show (if j < t + 1 + 0 then min (t + 1) (j + 1) else min t (j + 1)) = min t (j + 1)
        split <;> omega⟩ (fun s ρ hs hρ => ?_) (fun ρ hρ => ?_)
    · obtain ⟨Rw, Dn, x9, x10, x11, x12, x13, rfl, hRw⟩ := hρ
      have hi : t + 1 + s < m := by omega
      have hui := hul _ hi
      have hri := hRw.at_ hi (x := t) (by show (if t + 1 + s < t + 1 + s then min (t + 1) (t + 1 + s + 1) else min t (t + 1 + s + 1)) = t; rw [if_neg (by omega)]; omega)
      have hrt := hRw.at_ ht (x := t + 1) (by show (if t < t + 1 + s then min (t + 1) (t + 1) else min t (t + 1)) = t + 1; rw [if_pos (by omega)]; omega)
      have hby : Rw (u (t + 1 + s)) (u t) = stage P t (t + 1 + s) t := by rw [hri.1 _ hut, cl_u hen.inj ht]
      have s1 : ∀ k, k < g.length → Sm 67 (Rw (u (t + 1 + s)) k) := fun k hk => by rw [hri.1 k hk]; exact hsc t (by omega) _ hi k
      have s2 : Sm 67 (Dn (u (t + 1 + s))) := by rw [hri.2]; exact hsd t (by omega) _ hi
      have s3 : ∀ k, Sm 67 (cl m u (stage P (t + 1) t) k) := fun k => hsc (t + 1) (by omega) t ht k
      have s4 : Sm 67 (Dn (u t)) := by rw [hrt.2]; exact hsd (t + 1) (by omega) t ht
      have hoth : ∀ j, j < m → j ≠ t + 1 + s → (if j < t + 1 + (s + 1) then min (t + 1) (j + 1) else min t (j + 1)) = (if j < t + 1 + s then min (t + 1) (j + 1) else min t (j + 1)) := fun j hj hne => by
        by_cases h2 : j < t + 1 + s
        · rw [if_pos h2, if_pos (by omega)]
        · rw [if_neg h2, if_neg (by omega)]
      refine hg_name ?_
      refine hs_seq (hs_asg (d := num (Rw (u (t + 1 + s)) (u t))) (ev_ixF (n := g.length) (f := fun k => num (Rw (u (t + 1 + s)) k)) (EvD.l (ev_rw0 (Dn := Dn) (EvC.l (ec_var rfl)) (ev_var rfl) hui)) (ev_var rfl) hut) ?_)
      refine hs_if (b := !decide (Rw (u (t + 1 + s)) (u t) = 0)) (eb_test (ev_neQ (ev_var rfl) ev_q01)) (fun h => ?_) (fun h => hs_next ?_)
      · refine hs_seq (hs_asgN (en_mapF (n := g.length) (enc := eN) (fun k => num (Rw (u (t + 1 + s)) k + Rw (u (t + 1 + s)) (u t) * cl m u (stage P (t + 1) t) k)) (ei_rangeN (ev_leng (ev_var rfl)) (by omega)) (by omega) fun k hk => ⟨_, .name 15 (eN k), ev_l2 (op := (· + ·)) (ev_ixF (n := g.length) (f := fun k => num (Rw (u (t + 1 + s)) k)) (EvD.l (ev_rw0 (Dn := Dn) (EvC.l (ec_var rfl)) (ev_var rfl) hui)) (ev_var rfl) hk) (ev_l2 (op := (· * ·)) (ev_var rfl) (ev_ixF (n := g.length) (f := fun k => num (cl m u (stage P (t + 1) t) k)) (EvD.l (ev_var rfl)) (ev_var rfl) hk) (s1 _ hut) (s3 k) (by decide)) (s1 k hk) ((s1 _ hut).mul (s3 k)) (by decide)⟩) ?_)
        refine hs_seq (hs_setIn (i := 13) (k := u t) rfl (d := num 0) ev_q01 (ev_var rfl) (by rw [List.length_map, List.length_range]; exact hut) ?_)
        have er : (((List.range g.length).map fun k => num (Rw (u (t + 1 + s)) k + Rw (u (t + 1 + s)) (u t) * cl m u (stage P (t + 1) t) k)).set (u t) (num 0)) = (List.range g.length).map fun k => num (cl m u (stage P (t + 1) (t + 1 + s)) k) := by
          rw [set_range]
          refine List.map_congr_left fun k hk => ?_
          show _ = num (cl m u (elim t (stage P t) (t + 1 + s)) k)
          rw [← cl_oth hen.inj ht h0 (t + 1 + s) k, hri.1 k (List.mem_range.mp hk), hby]
          split <;> rfl
        refine hs_freeze (i := 13) (ds := (List.range g.length).map fun k => num (cl m u (stage P (t + 1) (t + 1 + s)) k)) (by rw [← er]; rfl) ?_
        have ed : Dn (u (t + 1 + s)) + Rw (u (t + 1 + s)) (u t) * Dn (u t) = stage P (t + 1) (t + 1 + s) m := by
          rw [hri.2, hby, hrt.2]
          exact done_oth hen.inj ht h0 (t + 1 + s)
        refine hs_setIn (i := 5) (k := u (t + 1 + s)) rfl (d := .tuple [eFq g.length (cl m u (stage P (t + 1) (t + 1 + s))), num (stage P (t + 1) (t + 1 + s) m)]) (ev_tup (ds := [_, _]) (ea_dat (ev_var rfl) (ea_dat ((ev_l2 (op := (· + ·)) (ev_rw1 (Rw := Rw) (EvC.l (ec_var rfl)) (ev_var rfl) hui) (ev_l2 (op := (· * ·)) (ev_var rfl) (ev_rw1 (Rw := Rw) (EvC.l (ec_var rfl)) (ev_var rfl) hut) (s1 _ hut) s4 (by decide)) s2 ((s1 _ hut).mul s4) (by decide)).is (by show num (Dn (u (t + 1 + s)) + Rw (u (t + 1 + s)) (u t) * Dn (u t)) = _; rw [ed])) ea_nil)) (by show 2 ≤ 100000; decide)) (ev_var rfl) (by rw [List.length_map, List.length_range]; exact hui) ?_
        rw [rowD_set]
        exact ⟨_, _, _, _, _, _, _, rfl, hRw.put hen.inj hi (t + 1) (by show (if t + 1 + s < t + 1 + (s + 1) then min (t + 1) (t + 1 + s + 1) else min t (t + 1 + s + 1)) = t + 1; rw [if_pos (by omega)]; omega) hoth⟩
      · have hz : stage P t (t + 1 + s) t = 0 := by
          rw [← hby]
          refine Classical.byContradiction fun z => ?_
          rw [decide_eq_false z] at h; cases h
        have e1 : (if t + 1 + s < t + 1 + (s + 1) then min (t + 1) (t + 1 + s + 1) else min t (t + 1 + s + 1)) = t + 1 := by rw [if_pos (by omega)]; omega
        refine ⟨Rw, Dn, _, _, _, _, _, rfl, hRw.keep hoth ⟨fun k hk => ?_, ?_⟩⟩
        · show _ = cl m u (stage P (if t + 1 + s < t + 1 + (s + 1) then min (t + 1) (t + 1 + s + 1) else min t (t + 1 + s + 1)) (t + 1 + s)) k
          rw [e1, hri.1 k hk]
          exact cl_same hen.inj ht h0 _ k hz
        · show _ = stage P (if t + 1 + s < t + 1 + (s + 1) then min (t + 1) (t + 1 + s + 1) else min t (t + 1 + s + 1)) (t + 1 + s) m
          rw [e1, hri.2]
          exact done_same hen.inj ht h0 _ hz
    · obtain ⟨Rw, Dn, x9, x10, x11, x12, x13, rfl, hRw⟩ := hρ
      exact ⟨Rw, Dn, _, _, _, _, _, _, _, _, rfl, hRw.eqv fun j hj => by
        show min (t + 1) (j + 1) = (if j < t + 1 + (m - (t + 1)) then min (t + 1) (j + 1) else min t (j + 1))
        rw [if_pos (by omega)]⟩
  · obtain ⟨Rw, Dn, x6, x7, x8, x9, x10, x11, x12, x13, rfl, hRw⟩ := hρ
    have hrj : ∀ j, j < m → (∀ k, k < g.length → Rw (u j) k = cl m u (stage P (j + 1) j) k) ∧ Dn (u j) = stage P (j + 1) j m := fun j hj => hRw.at_ hj (by show min m (j + 1) = j + 1; omega)
    refine hs_seq (hs_asgN (ds := (List.range g.length).map fun k => num (fnd (ch2 g so st) m u (fun i => stage P m i m) m k)) ((en_map (enc := ePl) g (fun p => num (if p.is_fin then 1 else 0)) (ei_list (ev_var rfl)) (by omega) fun p hp => ⟨_, .name 17 (ePl p), (ev_tup (ds := [_, _]) (ea_dat (ev_intB (ev_k_fin (ev_var rfl))) (ea_dat ev_int ea_nil)) (by show 2 ≤ 100000; decide)).is (by cases p.is_fin <;> rfl)⟩).is ?_) ?_)
    · apply List.ext_getElem?
      intro j
      rw [List.getElem?_map, List.getElem?_map]
      by_cases h : j < g.length
      · rw [List.getElem?_range h, List.getElem?_eq_getElem h]
        show some _ = some _
        congr 1
        show num _ = num _
        rw [fnd_start]
        unfold kn
        have e1 : pat g j = g[j] := by unfold pat; rw [List.getD_eq_getElem?_getD, List.getElem?_eq_getElem h]; rfl
        rw [ch2_fin h, e1, is_fin_eq]
      · rw [List.getElem?_eq_none (by omega), List.getElem?_eq_none (by rw [List.length_range]; omega)]; rfl
    have sf : ∀ s k, Sm 67 (fnd (ch2 g so st) m u (fun i => stage P m i m) s k) := fun s k => by
      cases hf : (pat (ch2 g so st) k).isFin with
      | true => rw [fnd_fin hf]; exact Sm.one.mono (by decide)
      | false =>
        rcases hit_or m u k with ⟨i, hi, rfl⟩ | h
        · rw [fnd_u hen hi]
          split
          · exact hsd m (Nat.le_refl m) i hi
          · exact Sm.zero.mono (by decide)
        · rw [fnd_no hf h]; exact Sm.zero.mono (by decide)
    refine hs_seq (hs_forN m (enc := fun s => eN (u (m - 1 - s))) (fun s ρ => ∃ (x6 x7 x8 x9 x10 x11 x12 x13 x15 : Sl), ρ = [.dat (eG g), .dat (eSt so), .dat (eSt st), .dat (eNs l), .dat (eF m fun j => eN (u j)), .lis ((List.range g.length).map (rowD g.length Rw Dn)), x6, x7, x8, x9, x10, x11, x12, x13, .lis ((List.range g.length).map fun k => num (fnd (ch2 g so st) m u (fun i => stage P m i m) (m - s) k)), x15, .any, .any])
      (ei_list ((EvN.f (en_rev (ds := (List.range m).map fun j => eN (u j)) (EvD.l (ev_var rfl)))).is (by rw [rev_range]))) ⟨_, _, _, _, _, _, _, _, _, rfl⟩ (fun s ρ hs hρ => ?_) (fun ρ hρ => ?_))
    · obtain ⟨x6, x7, x8, x9, x10, x11, x12, x13, x15, rfl⟩ := hρ
      obtain ⟨j, hj⟩ : ∃ j, j = m - 1 - s := ⟨_, rfl⟩
      have hjm : j < m := by omega
      have hms : m - s = j + 1 := by omega
      have hms' : m - (s + 1) = j := by omega
      rw [hms, hms', ← hj]
      have huj := hul j hjm
      have hr := hrj j hjm
      have s1 : ∀ k, k < g.length → Sm 67 (Rw (u j) k) := fun k hk => by rw [hr.1 k hk]; exact hsc (j + 1) (by omega) j hjm k
      have s2 : Sm 67 (Dn (u j)) := by rw [hr.2]; exact hsd (j + 1) (by omega) j hjm
      have spp : ∀ k, k ≤ g.length → Sm 1700 (Dn (u j) + sg k (fun k => cl m u (stage P (j + 1) j) k * fnd (ch2 g so st) m u (fun i => stage P m i m) (j + 1) k)) := fun k hk => (sm_sum s2 (fun k => (hsc (j + 1) (by omega) j hjm k).mul (sf (j + 1) k)) k).mono (by omega)
      refine hg_name ?_
      refine hs_seq (hs_asgG (d := rowD g.length Rw Dn (u j)) (ev_ixF (n := g.length) (f := rowD g.length Rw Dn) (EvC.l (ec_var rfl)) (ev_var rfl) huj) (hg_pair ?_))
      refine hs_seq (hs_forN g.length (fun k ρ => ∃ (x15 : Sl), ρ = [.dat (eG g), .dat (eSt so), .dat (eSt st), .dat (eNs l), .dat (eF m fun j => eN (u j)), .lis ((List.range g.length).map (rowD g.length Rw Dn)), x6, .dat (eN (u j)), .dat (eFq g.length (Rw (u j))), .dat (num (Dn (u j) + sg k (fun k => cl m u (stage P (j + 1) j) k * fnd (ch2 g so st) m u (fun i => stage P m i m) (j + 1) k))), x10, x11, x12, x13, .lis ((List.range g.length).map fun k => num (fnd (ch2 g so st) m u (fun i => stage P m i m) (j + 1) k)), x15, .any, .any]) (ei_rangeN (ev_leng (ev_var rfl)) (by omega)) ⟨x15, by rw [show Dn (u j) + sg 0 (fun k => cl m u (stage P (j + 1) j) k * fnd (ch2 g so st) m u (fun i => stage P m i m) (j + 1) k) = Dn (u j) from Rat.add_zero _]; rfl⟩ (fun k ρ hk hρ => ?_) (fun ρ hρ => ?_))
      · obtain ⟨x15, rfl⟩ := hρ
        refine hg_name ?_
        have e1 : Dn (u j) + sg (k + 1) (fun k => cl m u (stage P (j + 1) j) k * fnd (ch2 g so st) m u (fun i => stage P m i m) (j + 1) k) = (Dn (u j) + sg k (fun k => cl m u (stage P (j + 1) j) k * fnd (ch2 g so st) m u (fun i => stage P m i m) (j + 1) k)) + Rw (u j) k * fnd (ch2 g so st) m u (fun i => stage P m i m) (j + 1) k := by
          rw [hr.1 k hk]
          show _ + (_ + _) = _
          grind
        refine hs_if (b := !decide (Rw (u j) k = 0)) (eb_test (ev_neQ (ev_ixF (n := g.length) (f := fun k => num (Rw (u j) k)) (EvD.l (ev_var rfl)) (ev_var rfl) hk) ev_q01)) (fun h => ?_) (fun h => hs_next ?_)
        · refine hs_asg (ev_l2 (op := (· + ·)) (ev_var rfl) (ev_l2 (op := (· * ·)) (ev_ixF (n := g.length) (f := fun k => num (Rw (u j) k)) (EvD.l (ev_var rfl)) (ev_var rfl) hk) (ev_ixF (n := g.length) (f := fun k => num (fnd (ch2 g so st) m u (fun i => stage P m i m) (j + 1) k)) (EvC.l (ec_var rfl)) (ev_var rfl) hk) (s1 k hk) (sf _ k) (by decide)) (spp k (by omega)) ((s1 k hk).mul (sf _ k)) (by decide)) ⟨.dat (eN k), ?_⟩
          rw [e1]
          rfl
        · have hz : Rw (u j) k = 0 := by
            refine Classical.byContradiction fun z => ?_
            rw [decide_eq_false z] at h; cases h
          refine ⟨.dat (eN k), ?_⟩
          rw [e1, hz, Rat.zero_mul, Rat.add_zero]
          rfl
      · obtain ⟨x15, rfl⟩ := hρ
        have e1 : Dn (u j) + sg g.length (fun k => cl m u (stage P (j + 1) j) k * fnd (ch2 g so st) m u (fun i => stage P m i m) (j + 1) k) = stage P m j m := by
          rw [hr.2, ← hcl]
          exact fnd_sum hen hsy hjm
        rw [e1]
        refine hs_setIn (i := 14) (k := u j) rfl (ev_var rfl) (ev_var rfl) (by rw [List.length_map, List.length_range]; exact huj) ⟨x6, .dat (eN (u j)), .dat (eFq g.length (Rw (u j))), .dat (num (stage P m j m)), x10, x11, x12, x13, x15, ?_⟩
        have e2 : (((List.range g.length).map fun k => num (fnd (ch2 g so st) m u (fun i => stage P m i m) (j + 1) k)).set (u j) (num (stage P m j m))) = (List.range g.length).map fun k => num (fnd (ch2 g so st) m u (fun i => stage P m i m) j k) := by
          rw [set_range]
          refine List.map_congr_left fun k _ => ?_
          rw [← fnd_set hen hjm k]
          split <;> rfl
        rw [← e2]
        rfl
    · obtain ⟨x6, x7, x8, x9, x10, x11, x12, x13, x15, rfl⟩ := hρ
      refine hs_retF (i := 14) rfl ?_
      rw [Nat.sub_self, ← hP]
      exact hR _ (fnd_val hc hen)
end
end G
end
section
set_option Elab.async false
set_option linter.all false
set_option maxRecDepth 100000
set_option maxHeartbeats 4000000
set_option exponentiation.threshold 3000
/-! walks of the law: are they chances -/
namespace G
open PySem PySem.Spec PyProof.Rows L2
local macro_rules | `(tactic| walk_at "ev") => `(tactic| repeat' (first
  | ((with_reducible refine' ev_var ?_); rfl) | ((with_reducible refine' EvD.l (ev_var ?_)); rfl) | ((with_reducible refine' el_bor ?_); rfl) | ((with_reducible refine' EvC.l (ec_var ?_)); rfl) | ((with_reducible refine' evv_var ?_); rfl) | with_reducible exact ev_int | with_reducible exact ev_str | with_reducible exact ev_bl | with_reducible exact ev_non
  | ((with_reducible refine' Tx.evN ?_); assumption) | ((with_reducible refine' Tx.evO ?_); assumption)
  | with_reducible exact ea_nil | with_reducible refine' ea_dat ?_ ?_ | with_reducible refine' ea_bor ?_ ?_ | with_reducible refine' ea_val ?_ ?_
  | with_reducible refine' ev_add ?_ ?_ | with_reducible refine' ev_sub ?_ ?_ | with_reducible refine' ev_mulW ?_ ?_ ?_ | with_reducible refine' ev_neg ?_ | with_reducible refine' ev_cmp ?_ ?_
  | with_reducible refine' ev_q0 ?_ | with_reducible refine' ev_q1 ?_
  | with_reducible refine' ev_k_draw ?_ | with_reducible refine' ev_k_ours ?_ | with_reducible refine' ev_k_theirs ?_ | with_reducible refine' ev_k_reward ?_ | with_reducible refine' ev_k_fin ?_ | with_reducible refine' ev_k_lose ?_
  | with_reducible refine' ev_n_draw ?_ | with_reducible refine' ev_n_ours ?_ | with_reducible refine' ev_n_theirs ?_ | with_reducible refine' ev_n_reward ?_ | with_reducible refine' ev_n_fin ?_ | with_reducible refine' ev_n_lose ?_
  | with_reducible refine' ev_side ?_ ?_ | with_reducible refine' ev_kind ?_
  | with_reducible refine' eb_test ?_ | with_reducible refine' eb_B ?_ | with_reducible refine' ev_int1 ?_ | with_reducible refine' eb_not ?_ | with_reducible refine' eb_or ?_ (fun _ => ?_) | with_reducible refine' eb_and ?_ (fun _ => ?_) | with_reducible refine' ev_t0 ?_ | with_reducible refine' ev_t1 ?_ | with_reducible refine' ev_t2 ?_))
local macro_rules | `(tactic| walk_at "ifT") => `(tactic| (refine' hs_seq (hs_ifT (b := _) ?h ?n ?e); (case h => walk_at "ev"); (case e => rfl)))
local macro_rules | `(tactic| walk_at "ifF") => `(tactic| (refine' hs_seq (hs_ifF (b := _) ?h (hs_next ?n) ?e); (case h => walk_at "ev"); (case e => rfl)))
/-- numbers of a game -/
structure NmOk (g : Game) (v : Nat → Rat) : Prop where
  sm : ∀ i, i < g.length → Sm 67 (v i)
  ge : ∀ i, i < g.length → 0 ≤ v i
  le : ∀ i, i < g.length → v i ≤ 1
  fin : ∀ i, i < g.length → (pat g i).isFin = true → v i = 1
  lose : ∀ i, i < g.length → (pat g i).isLose = true → v i = 0
theorem nm_val {g : Game} {so st : Strat} (h : Gs g so st) {v : Nat → Rat} (hv : IsVal (ch2 g so st) v) : NmOk g v := by
  have hc := h.ck
  have hl : (ch2 g so st).length = g.length := ch2_len g so st
  refine ⟨fun i hi => hv.sz hc (by rw [hl]; exact hi), fun i hi => hv.ge0 hc (by rw [hl]; exact hi), fun i hi => hv.le1 hc (by rw [hl]; exact hi), fun i hi hf => hv.one i (by rw [hl]; exact hi) (by rw [ch2_fin hi]; exact hf), fun i hi hf => hv.zero i (by rw [hl]; exact hi) fun z => ?_⟩
  have h1 := rf_nolose z
  have hp : pat g i = .lose := by
    cases hp : pat g i with
    | lose => rfl
    | _ => rw [hp] at hf; cases hf
  rw [ch2_no hi (by rw [hp]; rfl), hp] at h1
  cases h1
section
variable {Pg : Program} {w : World} {K : PySem.W.Frag} {mg : Str → Option Value} {base : Heap} {aN aO : Addr}
theorem ev_less {E : XK} {ρ : List Sl} {ta tb : TE} {a b : Rat} (ha : EvD K w ta ρ (num a)) (hb : EvD K w tb ρ (num b)) (sa : Sm 67 a) (sb : Sm 67 b) : EvD K w (tCall (spD K S_less) [] E (tCons ta (tCons tb tNil))) ρ (.bool (decide (a < b))) :=
  ev_call (as := [.dat (num a), .dat (num b)]) (ea_dat ha (ea_dat hb ea_nil)) fun R' hR' => ⟨_, _, rfl, sa.mono (by decide), sb.mono (by decide), hR'⟩
/-! _law_are_numbers: level 3; slots 0 _law_game_here, 1 _law_numbers, 2 _law_k; calls ['_law_is_numbers 2', '_law_less 1'] -/
abbrev s__law_are_numbers : Stmt := topS 63
theorem sc__law_are_numbers : FnScope ["_law_game_here", "_law_numbers", "_law_k"] ["_law_game_here", "_law_numbers"] (defScope s__law_are_numbers) := ⟨rfl, rfl, rfl, by decide +kernel, rfl, by decide +kernel, by decide +kernel⟩
def S_are_numbers : List Ar → (PyData → Prop) → Prop := fun as R => ∃ (g : Game) (v : Nat → Rat), as = [.dat (eG g), .dat (eFq g.length v)] ∧ g.length ≤ 12 ∧ NmOk g v ∧ R (.bool true)
theorem ok__law_are_numbers {f : Addr} {fd : FuncData} (T : Tx K mg aN aO) (F : Fun K "_law_are_numbers" "_law_are_numbers" s__law_are_numbers f fd) (c__law_is_numbers : Cal Pg w K mg base 2 "_law_is_numbers" (spD K S_is_numbers)) (c__law_less : Cal Pg w K mg base 1 "_law_less" (spD K S_less)) : FnOk Pg w K mg base CX0 3 f fd ["_law_game_here", "_law_numbers"] (spD K S_are_numbers) := by
  refine fok F sc__law_are_numbers (fun as R h => ?len) fun cdv A outer s H E hr => ?_
  case len => obtain ⟨_, _, rfl, _⟩ := h; rfl
  have nd := sc__law_are_numbers.nd
  refine ⟨_, (pss_cons (ps_if (PW.pt (pw_or (pt_not (pt_val (pe_c c__law_is_numbers hr (by decide) (by rfl) (pa_cons (pv 1) pa_nil)))) (pw_or1 (pt_cmpR op_ne (kx_len (K := K) rfl (by rfl) T.len (pa_cons (pv 1) pa_nil)) (kx_len (K := K) rfl (by rfl) T.len (pa_cons (pv 0) pa_nil)) (nomark _))))) (pss_one (ps_ret pe_bl)) pss_nil)
        (pss_cons (ps_for PassesOwn.never rfl (pi_range1 (by rfl) T.range (pa_cons (kx_len (K := K) rfl (by rfl) T.len (pa_cons (pv 0) pa_nil)) pa_nil)) (pg_name (i := 2) nd rfl (Or.inl rfl)) (pss_cons (ps_if (PW.pt (pw_or (pt_val (pe_c c__law_less hr (by decide) (by rfl) (pa_cons (kx_ixL (K := K) rfl (pv 1) (pv 2) (fun _ _ => rfl)) (pa_cons (pe_tup (pa_cons pe_int (pa_cons pe_int pa_nil))) pa_nil)))) (pw_or1 (pt_val (pe_c c__law_less hr (by decide) (by rfl) (pa_cons (pe_tup (pa_cons pe_int (pa_cons pe_int pa_nil))) (pa_cons (kx_ixL (K := K) rfl (pv 1) (pv 2) (fun _ _ => rfl)) pa_nil))))))) (pss_one (ps_ret pe_bl)) pss_nil)
        (pss_one (ps_if (PW.pt (pw_or (PW.pt (pw_and (pt_cmpR op_eq (kx_ixT (K := K) rfl (kx_ixL (K := K) rfl (pv 0) (pv 2) (fun _ _ => rfl)) pe_int (fun _ _ => rfl)) pe_str (nomark _)) (pw_and1 (kt_neD (K := K) rfl hr (kx_ixL (K := K) rfl (pv 1) (pv 2) (fun _ _ => rfl)) (pe_tup (pa_cons pe_int (pa_cons pe_int pa_nil))))))) (pw_or1 (PW.pt (pw_and (pt_cmpR op_eq (kx_ixT (K := K) rfl (kx_ixL (K := K) rfl (pv 0) (pv 2) (fun _ _ => rfl)) pe_int (fun _ _ => rfl)) pe_str (nomark _)) (pw_and1 (kt_neD (K := K) rfl hr (kx_ixL (K := K) rfl (pv 1) (pv 2) (fun _ _ => rfl)) (pe_tup (pa_cons pe_int (pa_cons pe_int pa_nil)))))))))) (pss_one (ps_ret pe_bl)) pss_nil))))
        (pss_one (ps_ret pe_bl)))), fun as R hS => ?_⟩
  obtain ⟨g, v, rfl, hn, hv, hR⟩ := hS
  refine hs_seq (hs_if (eb_or (eb_not (eb_B (ev_call (as := [.dat (eFq g.length v)]) (by walk_at "ev") fun R' hR' => ⟨g.length, v, rfl, by omega, hR'⟩))) fun _ => eb_test (ev_neInt ((ev_len (EvD.l (ev_var rfl))).is (by rw [List.length_map, List.length_range])) (ev_leng (ev_var rfl)))) (fun h => by simp at h) (fun _ => hs_next ?_))
  refine hs_seq (hs_forN g.length (fun t ρ => ∃ x2, ρ = [.dat (eG g), .dat (eFq g.length v), x2]) (ei_rangeN (ev_leng (ev_var rfl)) (by omega)) ⟨_, rfl⟩ (fun t ρ ht hρ => ?_) (fun ρ hρ => ?_))
  · obtain ⟨x2, rfl⟩ := hρ
    refine hg_name ?_
    have hix : ∀ {x2 : Sl}, EvD K w (tOp (rIxL K) (tVar 1) (tVar 2)) [.dat (eG g), .dat (eFq g.length v), .dat (eN t)] (num (v t)) := fun {x2} => ev_ixF (n := g.length) (f := fun k => num (v k)) (EvD.l (ev_var rfl)) (ev_var rfl) ht
    refine hs_seq (hs_if (eb_or (eb_B (ev_less (ev_ixF (n := g.length) (f := fun k => num (v k)) (EvD.l (ev_var rfl)) (ev_var rfl) ht) ev_q01 (hv.sm t ht) (Sm.zero.mono (by decide)))) fun _ => eb_B (ev_less ev_q11 (ev_ixF (n := g.length) (f := fun k => num (v k)) (EvD.l (ev_var rfl)) (ev_var rfl) ht) (Sm.one.mono (by decide)) (hv.sm t ht))) (fun h => ?_) (fun _ => hs_next ?_))
    · rw [Bool.or_eq_true, decide_eq_true_eq, decide_eq_true_eq] at h
      have h1 := hv.ge t ht
      have h2 := hv.le t ht
      exact absurd h (by grind)
    · refine hs_if (eb_or (eb_and (eb_test (ev_k_fin (ev_ixG (ev_var rfl) (ev_var rfl) ht))) fun _ => eb_test (ev_neQ (ev_ixF (n := g.length) (f := fun k => num (v k)) (EvD.l (ev_var rfl)) (ev_var rfl) ht) ev_q11)) fun _ => eb_and (eb_test (ev_k_lose (ev_ixG (ev_var rfl) (ev_var rfl) ht))) fun _ => eb_test (ev_neQ (ev_ixF (n := g.length) (f := fun k => num (v k)) (EvD.l (ev_var rfl)) (ev_var rfl) ht) ev_q01)) (fun h => ?_) (fun _ => hs_next ⟨_, rfl⟩)
      rw [Bool.or_eq_true, Bool.and_eq_true, Bool.and_eq_true, is_fin_eq, is_lose_eq, Bool.not_eq_true', Bool.not_eq_true', decide_eq_false_iff_not, decide_eq_false_iff_not] at h
      rcases h with ⟨h1, h2⟩ | ⟨h1, h2⟩
      · exact absurd (hv.fin t ht h1) h2
      · exact absurd (hv.lose t ht h1) h2
  · obtain ⟨x2, rfl⟩ := hρ
    exact hs_ret ev_bl hR
/-! _law_are_chances: level 4; slots 0 _law_game_here, 1 _law_numbers, 2 _law_ours, 3 _law_theirs, 4 _law_reaching_here, 5 _law_k; calls ['_law_are_numbers 3', '_law_reaching 3', '_law_mean 3', '_law_goals 2'] -/
abbrev s__law_are_chances : Stmt := topS 65
theorem sc__law_are_chances : FnScope ["_law_game_here", "_law_numbers", "_law_ours", "_law_theirs", "_law_reaching_here", "_law_k"] ["_law_game_here", "_law_numbers", "_law_ours", "_law_theirs"] (defScope s__law_are_chances) := ⟨rfl, rfl, rfl, by decide +kernel, rfl, by decide +kernel, by decide +kernel⟩
def S_are_chances : List Ar → (PyData → Prop) → Prop := fun as R => ∃ (g : Game) (v : Nat → Rat) (so st : Strat), as = [.dat (eG g), .dat (eFq g.length v), .dat (eSt so), .dat (eSt st)] ∧ Gs g so st ∧ IsVal (ch2 g so st) v ∧ R (.bool true)
theorem ok__law_are_chances {f : Addr} {fd : FuncData} (T : Tx K mg aN aO) (F : Fun K "_law_are_chances" "_law_are_chances" s__law_are_chances f fd) (c__law_are_numbers : Cal Pg w K mg base 3 "_law_are_numbers" (spD K S_are_numbers)) (c__law_reaching : Cal Pg w K mg base 3 "_law_reaching" (spD K S_reaching)) (c__law_mean : Cal Pg w K mg base 3 "_law_mean" (spD K S_lmean)) (c__law_goals : Cal Pg w K mg base 2 "_law_goals" (spD K S_lgoals)) : FnOk Pg w K mg base CX0 4 f fd ["_law_game_here", "_law_numbers", "_law_ours", "_law_theirs"] (spD K S_are_chances) := by
  refine fok F sc__law_are_chances (fun as R h => ?len) fun cdv A outer s H E hr => ?_
  case len => obtain ⟨_, _, _, _, rfl, _⟩ := h; rfl
  have nd := sc__law_are_chances.nd
  refine ⟨_, (pss_cons (ps_if (pt_not (pt_val (pe_c c__law_are_numbers hr (by decide) (by rfl) (pa_cons (pv 0) (pa_cons (pv 1) pa_nil))))) (pss_one (ps_ret pe_bl)) pss_nil)
        (pss_cons (ps_set (i := 4) nd rfl (Or.inl rfl) (pe_c c__law_reaching hr (by decide) (by rfl) (pa_cons (pv 0) (pa_cons (pv 2) (pa_cons (pv 3) pa_nil)))))
        (pss_cons (ps_for PassesOwn.never rfl (pi_range1 (by rfl) T.range (pa_cons (kx_len (K := K) rfl (by rfl) T.len (pa_cons (pv 0) pa_nil)) pa_nil)) (pg_name (i := 5) nd rfl (Or.inl rfl)) (pss_one (ps_if (kt_ni (K := K) rfl (pv 5) (pv 4) rfl) (pss_one (ps_if (kt_neD (K := K) rfl hr (kx_ixL (K := K) rfl (pv 1) (pv 5) (fun _ _ => rfl)) (pe_tup (pa_cons pe_int (pa_cons pe_int pa_nil)))) (pss_one (ps_ret pe_bl)) pss_nil)) (pss_one (ps_if (pt_cmpR op_eq (kx_ixT (K := K) rfl (kx_ixL (K := K) rfl (pv 0) (pv 5) (fun _ _ => rfl)) pe_int (fun _ _ => rfl)) pe_str (nomark _)) (pss_one (ps_if (kt_neD (K := K) rfl hr (kx_ixL (K := K) rfl (pv 1) (pv 5) (fun _ _ => rfl)) (pe_c c__law_mean hr (by decide) (by rfl) (pa_cons (pv 0) (pa_cons (pv 5) (pa_cons (pv 1) pa_nil))))) (pss_one (ps_ret pe_bl)) pss_nil)) (pss_one (ps_if (PW.pt (pw_and (pt_cmpR op_ne (kx_ixT (K := K) rfl (kx_ixL (K := K) rfl (pv 0) (pv 5) (fun _ _ => rfl)) pe_int (fun _ _ => rfl)) pe_str (nomark _)) (pw_and1 (kt_neD (K := K) rfl hr (kx_ixL (K := K) rfl (pv 1) (pv 5) (fun _ _ => rfl)) (kx_ixL (K := K) rfl (pv 1) (kx_ixL (K := K) rfl (pe_c c__law_goals hr (by decide) (by rfl) (pa_cons (pv 0) (pa_cons (pv 5) (pa_cons (pv 2) (pa_cons (pv 3) pa_nil))))) pe_int (fun _ _ => rfl)) (fun _ _ => rfl)))))) (pss_one (ps_ret pe_bl)) pss_nil)))))))
        (pss_one (ps_ret pe_bl))))), fun as R hS => ?_⟩
  obtain ⟨g, v, so, st, rfl, hgs, hv, hR⟩ := hS
  have hn := hgs.n
  have hc := hgs.ck
  have hcl : (ch2 g so st).length = g.length := ch2_len g so st
  have hnm := nm_val hgs hv
  refine hs_seq (hs_if (eb_not (eb_B (ev_call (as := [.dat (eG g), .dat (eFq g.length v)]) (by walk_at "ev") fun R' hR' => ⟨g, v, rfl, hn, hnm, hR'⟩))) (fun h => by simp at h) (fun _ => hs_next ?_))
  refine hs_seq (hs_asgR (R := fun d => ∃ l : List Nat, d = eNs l ∧ l.Nodup ∧ ∀ x, x ∈ l ↔ x < g.length ∧ Rf (ch2 g so st) x) (evr_call (as := [.dat (eG g), .dat (eSt so), .dat (eSt st)]) (by walk_at "ev") fun R' hR' => ⟨g, so, st, rfl, hgs, fun l h1 h2 => hR' _ ⟨l, rfl, h1, h2⟩⟩) fun d hd => ?_)
  obtain ⟨l, rfl, hnd, hl⟩ := hd
  refine hs_seq (hs_forN g.length (fun t ρ => ∃ x5, ρ = [.dat (eG g), .dat (eFq g.length v), .dat (eSt so), .dat (eSt st), .dat (eNs l), x5]) (ei_rangeN (ev_leng (ev_var rfl)) (by omega)) ⟨_, rfl⟩ (fun t ρ ht hρ => ?_) (fun ρ hρ => ?_))
  · obtain ⟨x5, rfl⟩ := hρ
    refine hg_name ?_
    refine hs_if (eb_test (ev_niN (ev_var rfl) (EvD.l (ev_var rfl)))) (fun h => ?_) (fun h => ?_)
    · refine hs_if (eb_test (ev_neQ (ev_ixF (n := g.length) (f := fun k => num (v k)) (EvD.l (ev_var rfl)) (ev_var rfl) ht) ev_q01)) (fun h2 => ?_) (fun _ => hs_next ⟨_, rfl⟩)
      rw [Bool.not_eq_true', decide_eq_false_iff_not] at h h2
      exact absurd (hv.zero t (by rw [hcl]; exact ht) fun z => h ((hl t).mpr ⟨ht, z⟩)) h2
    · have hr : Rf (ch2 g so st) t := by
        rw [Bool.not_eq_false', decide_eq_true_eq] at h
        exact ((hl t).mp h).2
      refine hs_if (eb_test (ev_k_draw (ev_ixG (ev_var rfl) (ev_var rfl) ht))) (fun h2 => ?_) (fun h2 => ?_)
      · obtain ⟨bs, hp⟩ : ∃ bs, pat g t = .draw bs := by
          cases hp : pat g t <;> rw [hp] at h2 <;> first | exact ⟨_, rfl⟩ | exact Bool.noConfusion (show false = true from h2)
        have hpc : pat (ch2 g so st) t = .draw bs := by rw [ch2_no ht (by rw [hp]; rfl), hp]
        have hav := hv.avg t (by rw [hcl]; exact ht) hr (by rw [hpc]; rfl)
        rw [hpc] at hav
        have hbo : BrOk (ch2 g so st).length (pat (ch2 g so st) t).br := hc.br t (by rw [hcl]; exact ht) (by rw [hpc]; rfl) (by rw [hpc]; rfl)
        rw [hpc, hcl] at hbo
        refine hs_if (eb_test (ev_neQ (ev_ixF (n := g.length) (f := fun k => num (v k)) (EvD.l (ev_var rfl)) (ev_var rfl) ht) (ev_call (as := [.dat (eG g), .dat (eN t), .dat (eFq g.length v)]) (by walk_at "ev") fun R' hR' => ⟨g, t, bs, v, rfl, ht, hp, hbo.few, fun b hb => ⟨br_sm hbo hb, (hbo.pos b hb).2⟩, hnm.sm, hR'⟩))) (fun h3 => ?_) (fun _ => hs_next ⟨_, rfl⟩)
        rw [Bool.not_eq_true', decide_eq_false_iff_not] at h3
        exact absurd hav h3
      · refine hs_if (b := !(pat g t).is_fin && !decide (v t = v t)) (eb_and (eb_test (ev_n_fin (ev_ixG (ev_var rfl) (ev_var rfl) ht))) fun h3 => ?_) (fun h3 => by simp at h3) (fun _ => hs_next ⟨_, rfl⟩)
        have hf : (pat g t).isFin = false := by
          rw [Bool.not_eq_true', is_fin_eq] at h3; exact h3
        have hpc : ∃ x, (pat (ch2 g so st) t).br = [(1, x)] ∧ (pat (ch2 g so st) t).tgs = [x] := by
          have hnl := rf_nolose hr
          cases hs : (pat g t).side with
          | some s =>
            cases s with
            | us => rw [ch2_us ht hs]; exact ⟨_, rfl, rfl⟩
            | them => rw [ch2_them ht hs]; exact ⟨_, rfl, rfl⟩
          | none =>
            rw [ch2_no ht hs] at hnl ⊢
            cases hp : pat g t with
            | draw bs => rw [hp] at h2; exact Bool.noConfusion (show true = false from h2)
            | reward r x => exact ⟨x, rfl, rfl⟩
            | ours ts => rw [hp] at hs; cases hs
            | theirs ts => rw [hp] at hs; cases hs
            | fin => rw [hp] at hf; cases hf
            | lose => rw [hp] at hnl; cases hnl
        obtain ⟨x, hx1, hx2⟩ := hpc
        have hav := hv.avg t (by rw [hcl]; exact ht) hr (by rw [ch2_fin ht]; exact hf)
        rw [hx1, mean_single] at hav
        have hxl : x < g.length := by
          have hnl := rf_nolose hr
          have hbo := hc.br t (by rw [hcl]; exact ht) (by rw [ch2_fin ht]; exact hf) hnl
          rw [hx1, hcl] at hbo
          exact (hbo.pos (1, x) (List.mem_singleton_self _)).2
        have hgo : ∀ E : XK, EvD K w (tCall (spD K S_lgoals) [] E (tCons (tVar 0) (tCons (tVar 5) (tCons (tVar 2) (tCons (tVar 3) tNil))))) [.dat (eG g), .dat (eFq g.length v), .dat (eSt so), .dat (eSt st), .dat (eNs l), .dat (eN t)] (eNs [x]) := fun E => by
          have := ev_goals (K := K) (w := w) (E := E) hgs ht (ta := tVar 0) (tb := tVar 5) (tc := tVar 2) (td := tVar 3) (ρ := [.dat (eG g), .dat (eFq g.length v), .dat (eSt so), .dat (eSt st), .dat (eNs l), .dat (eN t)]) (ev_var rfl) (ev_var rfl) (ev_var rfl) (ev_var rfl)
          rw [hx2] at this
          exact this
        exact (eb_test (ev_neQ (ev_ixF (n := g.length) (f := fun k => num (v k)) (EvD.l (ev_var rfl)) (ev_var rfl) ht) (ev_ixF (n := g.length) (f := fun k => num (v k)) (k := x) (EvD.l (ev_var rfl)) (ev_ixM (enc := eN) (xs := [x]) (k := 0) (EvD.l (hgo _)) ev_int rfl) hxl))).is (by rw [hav])
  · obtain ⟨x5, rfl⟩ := hρ
    exact hs_ret ev_bl hR
end
end G
end
section
set_option Elab.async false
set_option linter.all false
set_option maxRecDepth 100000
set_option maxHeartbeats 4000000
/-! walks of the law: the pool -/
namespace G
open PySem PySem.Spec PyProof.Rows L2
local macro_rules | `(tactic| walk_at "ev") => `(tactic| repeat' (first
  | ((with_reducible refine' ev_var ?_); rfl) | ((with_reducible refine' EvD.l (ev_var ?_)); rfl) | ((with_reducible refine' el_bor ?_); rfl) | ((with_reducible refine' EvC.l (ec_var ?_)); rfl) | ((with_reducible refine' evv_var ?_); rfl) | with_reducible exact ev_int | with_reducible exact ev_str | with_reducible exact ev_bl | with_reducible exact ev_non
  | ((with_reducible refine' Tx.evN ?_); assumption) | ((with_reducible refine' Tx.evO ?_); assumption)
  | with_reducible exact ea_nil | with_reducible refine' ea_dat ?_ ?_ | with_reducible refine' ea_bor ?_ ?_ | with_reducible refine' ea_val ?_ ?_
  | with_reducible refine' ev_add ?_ ?_ | with_reducible refine' ev_sub ?_ ?_ | with_reducible refine' ev_mulW ?_ ?_ ?_ | with_reducible refine' ev_neg ?_ | with_reducible refine' ev_cmp ?_ ?_
  | with_reducible refine' ev_q0 ?_ | with_reducible refine' ev_q1 ?_
  | with_reducible refine' ev_k_draw ?_ | with_reducible refine' ev_k_ours ?_ | with_reducible refine' ev_k_theirs ?_ | with_reducible refine' ev_k_reward ?_ | with_reducible refine' ev_k_fin ?_ | with_reducible refine' ev_k_lose ?_
  | with_reducible refine' ev_n_draw ?_ | with_reducible refine' ev_n_ours ?_ | with_reducible refine' ev_n_theirs ?_ | with_reducible refine' ev_n_reward ?_ | with_reducible refine' ev_n_fin ?_ | with_reducible refine' ev_n_lose ?_
  | with_reducible refine' ev_side ?_ ?_ | with_reducible refine' ev_kind ?_
  | with_reducible refine' eb_test ?_ | with_reducible refine' eb_B ?_ | with_reducible refine' ev_int1 ?_ | with_reducible refine' eb_not ?_ | with_reducible refine' eb_or ?_ (fun _ => ?_) | with_reducible refine' eb_and ?_ (fun _ => ?_) | with_reducible refine' ev_t0 ?_ | with_reducible refine' ev_t1 ?_ | with_reducible refine' ev_t2 ?_))
local macro_rules | `(tactic| walk_at "ifT") => `(tactic| (refine' hs_seq (hs_ifT (b := _) ?h ?n ?e); (case h => walk_at "ev"); (case e => rfl)))
local macro_rules | `(tactic| walk_at "ifF") => `(tactic| (refine' hs_seq (hs_ifF (b := _) ?h (hs_next ?n) ?e); (case h => walk_at "ev"); (case e => rfl)))
section
variable {P : Program} {w : World} {H H' : Hp} {h h' : Heap}
/-- another form of one cell -/
theorem hok_put {a : Addr} {o : HO} (x : HOk P w H h) (hn : ∀ b u, H b = some u → b = a → (∀ c, u ≠ .own c) ∧ (∀ xs, u ≠ .tup xs)) (new : ObjOk P w (upd H a o) h a o) : HOk P w (upd H a o) h := fun b u e => by
  by_cases hb : b = a
  · subst hb
    rw [upd_same] at e
    cases e
    exact new
  · rw [upd_ne hb] at e
    refine (x b u e).stay (fun _ _ _ z => z) (fun c z => ?_) (fun c xs z => ?_)
    · by_cases hc : c = a
      · exact absurd rfl ((hn c _ z hc).1 b)
      · rw [upd_ne hc]; exact z
    · by_cases hc : c = a
      · exact absurd rfl ((hn c _ z hc).2 xs)
      · rw [upd_ne hc]; exact z
theorem pool_in {a : Addr} {n : Nat} (x : HOk P w H h) (ha : H a = some (PoolO a n)) (hn : n ≤ 100000) : ∃ ns : List Int, ns.length = n ∧ HOk P w (upd H a (.lst (ns.map V.int))) h := by
  obtain ⟨⟨its, c, ns, h1, h2, h3⟩, _, _⟩ := x a _ ha
  refine ⟨ns, h2, hok_put x (fun b u e hb => ?_) ⟨sz_of (by rw [List.length_map, h2]; exact hn), its, c, h1, h3⟩⟩
  subst hb
  rw [ha] at e
  have e2 := Option.some.inj e
  unfold PoolO at e2
  subst e2
  exact ⟨(fun c z => nomatch z), (fun xs z => nomatch z)⟩
theorem pool_out {a : Addr} {ns : List Int} (x : HOk P w H h) (ha : H a = some (.lst (ns.map V.int))) : HOk P w (upd H a (PoolO a ns.length)) h := by
  obtain ⟨_, its, c, h1, h3⟩ := x a _ ha
  refine hok_put x (fun b u e hb => ?_) ⟨⟨its, c, ns, h1, rfl, h3⟩, ⟨_, h3⟩, fun h1 h2 p k => ?_⟩
  · subst hb
    rw [ha] at e
    have e2 := Option.some.inj e
    subst e2
    exact ⟨(fun c z => nomatch z), (fun xs z => nomatch z)⟩
  · obtain ⟨its', c', ns', p1, p2, p3⟩ := p
    exact ⟨its', c', ns', p1, p2, k _ p3⟩
end
section
variable {Pg : Program} {w : World} {K : PySem.W.Frag} {mg : Str → Option Value} {base : Heap} {aN aO : Addr}
/-- a promise of a def over a list of ints, as one over a pool -/
theorem fn_pool {k : Nat} {f : Addr} {fd : FuncData} {ps : List Str} {spL spW : Sp} (F : FnOk Pg w K mg base CX0 k f fd ps spL)
    (hlen : ∀ vs H Q E, spW vs H Q E → vs.length = ps.length)
    (hsp : ∀ vs H Q E, spW vs H Q E → ∃ a n, H a = some (PoolO a n) ∧ n ≤ 100000 ∧ ∀ ns : List Int, ns.length = n → spL vs (upd H a (.lst (ns.map V.int))) (fun v H' => ∃ ns' : List Int, ns'.length = n ∧ H' = upd H a (.lst (ns'.map V.int)) ∧ Q v H) E) : FnOk Pg w K mg base CX0 k f fd ps spW := by
  refine ⟨hlen, fun A outer s H args us vs Q E hr he hb hv hw => ?_⟩
  obtain ⟨a, n, ha, hn, hs⟩ := hsp vs H Q E hw
  obtain ⟨ns, hns, hok⟩ := pool_in he.hok ha hn
  have hne : ∀ b, H b = none → b ≠ a := fun b z e => by rw [e, ha] at z; cases z
  have hue : ∀ b (o : HO), b ≠ a → upd H a o b = H b := fun b o z => upd_ne z
  refine codeAny_mono (F.run A outer s _ args us vs _ E hr ⟨he.frames, he.mod, fun b o z => ⟨(he.bs b o z).1, by rw [hue b _ (hne b (he.bs b o z).2)]; exact (he.bs b o z).2⟩, he.bsz, he.funs, fun b z => by rw [hue b _ (hne b (he.frf b z))]; exact he.frf b z, hok, he.bare⟩ hb hv (hs ns hns)) fun r s' hr' => ?_
  cases r with
  | error e => exact hr'
  | ok fl =>
    cases fl with
    | ret u =>
      obtain ⟨v, H', c1, c2, c3, c4, c5, ns', hl, rfl, hQ⟩ := hr'
      have hback : upd (upd H a (.lst (ns'.map V.int))) a (PoolO a n) = H := by
        funext b
        by_cases e : b = a
        · subst e; rw [upd_same, ha]
        · rw [upd_ne e, upd_ne e]
      have hok2 := pool_out (ns := ns') c4 upd_same
      rw [hl, hback] at hok2
      refine ⟨v, H, c1, c2, ⟨fun b o z1 z2 z3 z4 => c3.keep b o z1 (by rw [hue b _ (hne b z2)]; exact z2) z3 z4, fun b o z1 z2 z3 z4 => c3.slot b o z1 (by rw [hue b _ (hne b z2)]; exact z2) z3 z4, fun b o _ z _ => z, c3.there, fun b xs z => z, fun b o u z => z, fun b ps z => ⟨#[], by rw [Array.append_empty]; exact z⟩⟩, hok2, c5, hQ⟩
    | _ => exact hr'
/-- a promise of a def that makes a list of ints, as one that makes a pool -/
theorem fn_made {k : Nat} {f : Addr} {fd : FuncData} {ps : List Str} {spL spW : Sp} (F : FnOk Pg w K mg base CX0 k f fd ps spL)
    (hlen : ∀ vs H Q E, spW vs H Q E → vs.length = ps.length)
    (hsp : ∀ vs H Q E, spW vs H Q E → spL vs H (fun v H' => ∃ (r : Addr) (ns : List Int), v = .ref r ∧ H r = none ∧ H' r = some (.lst (ns.map V.int)) ∧ Q (.ref r) (upd H' r (PoolO r ns.length))) E) : FnOk Pg w K mg base CX0 k f fd ps spW := by
  refine ⟨hlen, fun A outer s H args us vs Q E hr he hb hv hw => ?_⟩
  refine codeAny_mono (F.run A outer s _ args us vs _ E hr he hb hv (hsp vs H Q E hw)) fun r s' hr' => ?_
  cases r with
  | error e => exact hr'
  | ok fl =>
    cases fl with
    | ret u =>
      obtain ⟨v, H', c1, c2, c3, c4, c5, r, ns, rfl, hn, hr1, hQ⟩ := hr'
      have hue : ∀ b, b ≠ r → upd H' r (PoolO r ns.length) b = H' b := fun b z => upd_ne z
      have hne : ∀ b (o : HO), H b = some o → b ≠ r := fun b o z e => by rw [e, hn] at z; cases z
      refine ⟨.ref r, _, c1, c2, ⟨c3.keep, c3.slot, fun b o z1 z2 z3 => ?_, c3.there, fun b xs z => ?_, fun b o u z => ?_, fun b ps z => ?_⟩, pool_out c4 hr1, c5, hQ⟩
      · have hb2 := c3.free b o z1 z2 z3
        have : b ≠ r := fun e => by rw [e, hr1] at hb2; cases hb2
        rw [hue b this]; exact hb2
      · rw [hue b (hne b _ z)]; exact c3.tups b xs z
      · rw [hue b (hne b _ z)]; exact c3.frzs b o u z
      · rw [hue b (hne b _ z)]; exact c3.tbls b ps z
    | _ => exact hr'
end
end G
end
section
set_option Elab.async false
set_option linter.all false
set_option maxRecDepth 100000
set_option maxHeartbeats 4000000
/-! walks of the law: the pool, further -/
namespace G
open PySem PySem.Spec PyProof.Rows L2
local macro_rules | `(tactic| walk_at "ev") => `(tactic| repeat' (first
  | ((with_reducible refine' ev_var ?_); rfl) | ((with_reducible refine' EvD.l (ev_var ?_)); rfl) | ((with_reducible refine' el_bor ?_); rfl) | ((with_reducible refine' EvC.l (ec_var ?_)); rfl) | ((with_reducible refine' evv_var ?_); rfl) | with_reducible exact ev_int | with_reducible exact ev_str | with_reducible exact ev_bl | with_reducible exact ev_non
  | ((with_reducible refine' Tx.evN ?_); assumption) | ((with_reducible refine' Tx.evO ?_); assumption)
  | with_reducible exact ea_nil | with_reducible refine' ea_dat ?_ ?_ | with_reducible refine' ea_bor ?_ ?_ | with_reducible refine' ea_val ?_ ?_
  | with_reducible refine' ev_add ?_ ?_ | with_reducible refine' ev_sub ?_ ?_ | with_reducible refine' ev_mulW ?_ ?_ ?_ | with_reducible refine' ev_neg ?_ | with_reducible refine' ev_cmp ?_ ?_
  | with_reducible refine' ev_q0 ?_ | with_reducible refine' ev_q1 ?_
  | with_reducible refine' ev_k_draw ?_ | with_reducible refine' ev_k_ours ?_ | with_reducible refine' ev_k_theirs ?_ | with_reducible refine' ev_k_reward ?_ | with_reducible refine' ev_k_fin ?_ | with_reducible refine' ev_k_lose ?_
  | with_reducible refine' ev_n_draw ?_ | with_reducible refine' ev_n_ours ?_ | with_reducible refine' ev_n_theirs ?_ | with_reducible refine' ev_n_reward ?_ | with_reducible refine' ev_n_fin ?_ | with_reducible refine' ev_n_lose ?_
  | with_reducible refine' ev_side ?_ ?_ | with_reducible refine' ev_kind ?_
  | with_reducible refine' eb_test ?_ | with_reducible refine' eb_B ?_ | with_reducible refine' ev_int1 ?_ | with_reducible refine' eb_not ?_ | with_reducible refine' eb_or ?_ (fun _ => ?_) | with_reducible refine' eb_and ?_ (fun _ => ?_) | with_reducible refine' ev_t0 ?_ | with_reducible refine' ev_t1 ?_ | with_reducible refine' ev_t2 ?_))
local macro_rules | `(tactic| walk_at "ifT") => `(tactic| (refine' hs_seq (hs_ifT (b := _) ?h ?n ?e); (case h => walk_at "ev"); (case e => rfl)))
local macro_rules | `(tactic| walk_at "ifF") => `(tactic| (refine' hs_seq (hs_ifF (b := _) ?h (hs_next ?n) ?e); (case h => walk_at "ev"); (case e => rfl)))
theorem at_ints {l : List Int} {k : Int} (h0 : 0 ≤ k) (h1 : k < l.length) : atI (l.map V.int) k = some (.int (l.getD k.toNat 0)) := by
  unfold atI ixN
  rw [List.length_map, if_pos h0, if_pos h1]
  show (l.map V.int)[k.toNat]? = _
  rw [List.getElem?_map, List.getD_eq_getElem?_getD, List.getElem?_eq_getElem (by omega)]
  rfl
theorem upd_upd {H : Hp} {a : Addr} {o u : HO} : upd (upd H a o) a u = upd H a u := by
  funext b
  by_cases e : b = a
  · subst e; rw [upd_same, upd_same]
  · rw [upd_ne e, upd_ne e, upd_ne e]
section
variable {Pg : Program} {w : World} {K : PySem.W.Frag} {mg : Str → Option Value} {base : Heap} {aN aO : Addr}
/-! _law_pick: level 1; slots 0 _law_pool_here, 1 _law_many; calls [] -/
abbrev s__law_pick : Stmt := topS 46
theorem sc__law_pick : FnScope ["_law_pool_here", "_law_many"] ["_law_pool_here", "_law_many"] (defScope s__law_pick) := ⟨rfl, rfl, rfl, by decide +kernel, rfl, by decide +kernel, by decide +kernel⟩
def spPickL : Sp := fun vs H Q _ => ∃ (a : Addr) (ns : List Int) (many : Int), vs = [.ref a, .int many] ∧ H a = some (.lst (ns.map V.int)) ∧ 2 ≤ ns.length ∧ 0 < many ∧ ∀ (ns' : List Int) (r : Int), ns'.length = ns.length → 0 ≤ r → r < many → Q (.int r) (upd H a (.lst (ns'.map V.int)))
def S_pick : List Ar → (PyData → Prop) → Prop := fun as R => ∃ (n many : Nat), as = [.pool n, .dat (eN many)] ∧ 2 ≤ n ∧ n ≤ 100000 ∧ 0 < many ∧ ∀ r : Nat, r < many → R (eN r)
theorem ok__law_pickL {f : Addr} {fd : FuncData} (T : Tx K mg aN aO) (F : Fun K "_law_pick" "_law_pick" s__law_pick f fd) : FnOk Pg w K mg base CX0 1 f fd ["_law_pool_here", "_law_many"] spPickL := by
  refine F.ok sc__law_pick (fun vs H Q E h => ?_) (fun cdv A outer s H vs Q E hr h => ?_)
  · obtain ⟨_, _, _, rfl, _⟩ := h; rfl
  obtain ⟨a, ns, many, rfl, hH, hn, hm, q⟩ := h
  have nd := sc__law_pick.nd
  refine ⟨_, (pss_cons (ps_asg (pe_op op_add pe_int (pe_op op_mod (pe_callTy call_int1 (by rfl) T.int_ (by decide +kernel) (pa_cons (kx_ixL (K := K) rfl (pv 0) pe_int (fun _ _ => rfl)) pa_nil)) (pe_op op_sub (kx_len (K := K) rfl (by rfl) T.len (pa_cons (pv 0) pa_nil)) pe_int))) (pg_sub (pv 0) pe_int set_list))
        (pss_one (ps_ret (pe_op op_mod (pe_callTy call_int1 (by rfl) T.int_ (by decide +kernel) (pa_cons (kx_ixL (K := K) rfl (pv 0) (kx_ixL (K := K) rfl (pv 0) pe_int (fun _ _ => rfl)) (fun _ _ => rfl)) pa_nil)) (pv 1))))), ?_⟩
  have h0 := at_ints (l := ns) (k := 0) (by decide) (by omega)
  refine ⟨.ref a, rfl, a, _, 0, _, rfl, rfl, sq_of hH, h0, .inl ⟨_, rfl, .ref a, rfl, a, _, rfl, .inl (sq_of hH), _, _, rfl, rfl, _, _, rfl, rfl, ?_, _, _, rfl, rfl, .ref a, rfl, a, _, 0, 0, rfl, rfl, hH, ?_, ?_⟩⟩
  · rw [List.length_map]; omega
  · unfold ixN
    rw [if_pos (by decide), if_pos (by rw [List.length_map]; omega)]; rfl
  have hp1 : 1 ≤ 1 + ns.getD (Int.toNat 0) 0 % (((ns.map V.int).length : Int) - 1) ∧ 1 + ns.getD (Int.toNat 0) 0 % (((ns.map V.int).length : Int) - 1) < ns.length := by
    rw [List.length_map]
    have h1 := Int.emod_nonneg (ns.getD (Int.toNat 0) 0) (show ((ns.length : Int) - 1) ≠ 0 by omega)
    have h2 := Int.emod_lt_of_pos (ns.getD (Int.toNat 0) 0) (show 0 < ((ns.length : Int) - 1) by omega)
    omega
  obtain ⟨p, hpe⟩ : ∃ p : Int, p = 1 + ns.getD (Int.toNat 0) 0 % (((ns.map V.int).length : Int) - 1) := ⟨_, rfl⟩
  rw [← hpe] at hp1
  rw [show (ns.map V.int).set 0 (V.int (1 + ns.getD (Int.toNat 0) 0 % (((ns.map V.int).length : Int) - 1))) = (ns.set 0 p).map V.int from by rw [hpe, List.map_set]]
  have hl : (ns.set 0 p).length = ns.length := List.length_set
  have h0' := at_ints (l := ns.set 0 p) (k := 0) (by decide) (by omega)
  have hg0 : (ns.set 0 p).getD (Int.toNat 0) 0 = p := by
    show (ns.set 0 p).getD 0 0 = p
    rw [List.getD_eq_getElem?_getD, List.getElem?_set_self (by omega)]; rfl
  rw [hg0] at h0'
  have hp' := at_ints (l := ns.set 0 p) (k := p) (by omega) (by omega)
  refine ⟨.ref a, rfl, .ref a, rfl, a, _, 0, _, rfl, rfl, sq_of upd_same, h0', a, _, p, _, rfl, rfl, sq_of upd_same, hp', .inl ⟨_, rfl, .int many, rfl, _, _, rfl, rfl, hm, ?_⟩⟩
  exact q _ _ hl (Int.emod_nonneg _ (by omega)) (Int.emod_lt_of_pos _ hm)
theorem ok__law_pick {f : Addr} {fd : FuncData} (T : Tx K mg aN aO) (F : Fun K "_law_pick" "_law_pick" s__law_pick f fd) : FnOk Pg w K mg base CX0 1 f fd ["_law_pool_here", "_law_many"] (spD K S_pick) := by
  refine fn_pool (ok__law_pickL T F) (fun vs H Q E h => ?_) fun vs H Q E h => ?_
  · obtain ⟨I, as, e, ha, n, many, rfl, _⟩ := h
    obtain ⟨v, u, rfl, _, _⟩ := ars2 ha
    rfl
  · obtain ⟨I, as, e, ha, n, many, rfl, h2, hn, hm, hR⟩ := h
    obtain ⟨v, u, rfl, p1, p2⟩ := ars2 ha
    obtain ⟨a, rfl, hp⟩ := p1
    cases dp_int p2
    refine ⟨a, n, hp, hn, fun ns hns => ⟨a, ns, many, rfl, upd_same, by omega, by omega, fun ns' r hl h0 hlt => ⟨ns', by omega, upd_upd, ?_⟩⟩⟩
    have hr : r = ((r.toNat : Nat) : Int) := by omega
    refine hR r.toNat (by omega) _ I H (.refl e) ?_
    rw [hr]
    exact .int _
/-! _law_pool: level 1; slots 0 _law_script, 1 _law_pool_here, 2 _law_state, 3 _law_k, 4 _law_cell, 5 _law_step, 6 _law_one, 7 _law_two; calls [] -/
abbrev s__law_pool : Stmt := topS 44
theorem sc__law_pool : FnScope ["_law_script", "_law_pool_here", "_law_state", "_law_k", "_law_cell", "_law_step", "_law_one", "_law_two"] ["_law_script"] (defScope s__law_pool) := ⟨rfl, rfl, rfl, by decide +kernel, rfl, by decide +kernel, by decide +kernel⟩
def S_pool : List Ar → (List PyData → Prop) → Prop := fun as R => ∃ ns : List Int, as = [.bor (ns.map .int)] ∧ ns.length ≤ 100000 ∧ ∀ ms : List Int, 300 ≤ ms.length → ms.length ≤ 4100 → R (ms.map .int)
theorem ok__law_pool {f : Addr} {fd : FuncData} (T : Tx K mg aN aO) (F : Fun K "_law_pool" "_law_pool" s__law_pool f fd) : FnOk Pg w K mg base CX0 1 f fd ["_law_script"] (spN K S_pool) := by
  refine fokN F sc__law_pool (fun as R h => ?len) fun cdv A outer s H E hr => ?_
  case len => obtain ⟨_, rfl, _⟩ := h; rfl
  have nd := sc__law_pool.nd
  refine ⟨_, (pss_cons (ps_set (i := 1) nd rfl (Or.inl rfl) (pe_lst pa_nil))
        (pss_cons (ps_set (i := 2) nd rfl (Or.inl rfl) pe_int)
        (pss_cons (ps_for PassesOwn.never rfl (pi_range1 (by rfl) T.range (pa_cons (pe_callB (call_min2 rfl) (by rfl) T.min_ (by decide +kernel) (pa_cons (kx_len (K := K) rfl (by rfl) T.len (pa_cons (pv 0) pa_nil)) (pa_cons pe_int pa_nil))) pa_nil)) (pg_name (i := 3) nd rfl (Or.inl rfl)) (pss_cons (ps_set (i := 4) nd rfl (Or.inl rfl) (kx_ixL (K := K) rfl (pv 0) (pv 3) (fun _ _ => rfl)))
        (pss_cons (ps_set (i := 2) nd rfl (Or.inl rfl) (pe_op op_mod (pe_callTy call_int1 (by rfl) T.int_ (by decide +kernel) (pa_cons (pe_op op_add (pe_op op_add (pe_op op_mul (pv 2) pe_int) (pe_op op_mul (pv 4) pe_int)) (pv 3)) pa_nil)) pe_int))
        (pss_one (ps_if (pt_cmpR op_ge (pv 4) (pe_op op_pow pe_int pe_int) (nomark _)) (pss_one (ps_for PassesOwn.never rfl (pi_range1 (by rfl) T.range (pa_cons pe_int pa_nil)) (pg_name (i := 5) nd rfl (Or.inl rfl)) (pss_cons (ps_expr (kx_append (K := K) rfl (pv 1) (pa_cons (pe_op op_mod (pe_callTy call_int1 (by rfl) T.int_ (by decide +kernel) (pa_cons (pv 4) pa_nil)) pe_int) pa_nil)))
        (pss_one (ps_set (i := 4) nd rfl (Or.inl rfl) (pe_op op_fdivW (pv 4) pe_int)))))) (pss_cons (ps_set (i := 6) nd rfl (Or.inl rfl) (pe_op op_mod (pe_callTy call_int1 (by rfl) T.int_ (by decide +kernel) (pa_cons (pe_op op_add (pe_op op_add (pe_op op_mul (pv 4) pe_int) (pe_op op_mul (pv 3) pe_int)) pe_int) pa_nil)) pe_int))
        (pss_cons (ps_set (i := 7) nd rfl (Or.inl rfl) (pe_op op_mod (pe_callTy call_int1 (by rfl) T.int_ (by decide +kernel) (pa_cons (pe_op op_add (pe_op op_add (pe_op op_mul (pv 6) pe_int) (pe_op op_mul (pv 4) pe_int)) (pv 3)) pa_nil)) pe_int))
        (pss_one (ps_set (i := 1) nd rfl (Or.inl rfl) (pe_op op_cat (pv 1) (pe_lst (pa_cons (pe_op op_mod (pe_callTy call_int1 (by rfl) T.int_ (by decide +kernel) (pa_cons (pe_op op_fdivW (pv 6) pe_int) pa_nil)) pe_int) (pa_cons (pe_op op_mod (pe_callTy call_int1 (by rfl) T.int_ (by decide +kernel) (pa_cons (pv 7) pa_nil)) pe_int) pa_nil)))))))))))))
        (pss_cons (ps_for PassesOwn.never rfl (pi_range1 (by rfl) T.range (pa_cons pe_int pa_nil)) (pg_name (i := 5) nd rfl (Or.inl rfl)) (pss_cons (ps_set (i := 2) nd rfl (Or.inl rfl) (pe_op op_mod (pe_callTy call_int1 (by rfl) T.int_ (by decide +kernel) (pa_cons (pe_op op_add (pe_op op_mul (pv 2) pe_int) pe_int) pa_nil)) pe_int))
        (pss_one (ps_expr (kx_append (K := K) rfl (pv 1) (pa_cons (pe_op op_mod (pe_callTy call_int1 (by rfl) T.int_ (by decide +kernel) (pa_cons (pe_op op_fdivW (pv 2) pe_int) pa_nil)) pe_int) pa_nil))))))
        (pss_one (ps_ret (pv 1))))))), fun as R hS => ?_⟩
  obtain ⟨ns, rfl, hl, hR⟩ := hS
  have app : ∀ (ms : List Int) (x : Int), (ms.map PyData.int) ++ [PyData.int x] = (ms ++ [x]).map PyData.int := fun ms x => by rw [List.map_append]; rfl
  have hc : ∀ i : Int, CDivW i 60 ∧ CDivW i 11 ∧ CDivW i 97 := fun i => ⟨⟨by decide, by decide⟩, ⟨by decide, by decide⟩, ⟨by decide, by decide⟩⟩
  refine hs_seq (hs_asgN (ds := ([] : List Int).map PyData.int) (en_lst (ds := []) ea_nil (by show 0 ≤ 100000; decide)) ?_)
  refine hs_seq (hs_asg (d := .int 17) ev_int ?_)
  refine hs_seq (hs_forN (min ns.length 63) (fun k ρ => ∃ (ms : List Int) (st : Int) (x3 x4 x5 x6 x7 : Sl), ρ = [.bor (ns.map .int), .lis (ms.map .int), .dat (.int st), x3, x4, x5, x6, x7] ∧ ms.length ≤ 60 * k) (ei_rangeN ((ev_min2 ((ev_len (el_bor rfl)).is (by rw [List.length_map])) ev_int).is (by
      congr 1
      split <;> omega)) (by omega)) ⟨[], 17, _, _, _, _, _, rfl, Nat.zero_le _⟩ (fun k ρ hk hρ => ?_) (fun ρ hρ => ?_))
  · obtain ⟨ms, st, x3, x4, x5, x6, x7, rfl, hms⟩ := hρ
    have hkn : k < ns.length := by omega
    refine hg_name ?_
    refine hs_seq (hs_asg (d := .int (ns.getD k 0)) (ev_ixLn (k := k) (el_bor rfl) (ev_var rfl) (by rw [List.getElem?_map, List.getD_eq_getElem?_getD, List.getElem?_eq_getElem hkn]; rfl)) ?_)
    generalize ns.getD k 0 = cell
    refine hs_seq (hs_asg (d := .int _) (ev_I (C := fun x j => 0 < j) (g := fun i j => i % j) (ev_int1 (ev_add (ev_add (ev_I (C := CMul) (g := fun i j => i * j) (ev_var rfl) ev_int (.inr ⟨by decide, by decide⟩)) (ev_I (C := CMul) (g := fun i j => i * j) (ev_var rfl) ev_int (.inr ⟨by decide, by decide⟩))) (ev_var rfl))) ev_int (by decide)) ?_)
    refine hs_if (eb_test (ev_cmp (ev_var rfl) (ev_I (C := CPow) (g := fun i j => i ^ j.toNat) ev_int ev_int ⟨by decide, by decide, by decide⟩))) (fun _ => ?_) (fun _ => ?_)
    · refine hs_forN 60 (fun i ρ => ∃ (ms : List Int) (st cell : Int) (x3 x5 x6 x7 : Sl), ρ = [.bor (ns.map .int), .lis (ms.map .int), .dat (.int st), x3, .dat (.int cell), x5, x6, x7] ∧ ms.length ≤ 60 * k + i) (ei_rangeN ev_int (by decide)) ⟨ms, _, _, _, _, _, _, rfl, by omega⟩ (fun i ρ hi hρ => ?_) (fun ρ hρ => ?_)
      · obtain ⟨ms, st, cell, x3, x5, x6, x7, rfl, hms⟩ := hρ
        refine hg_name ?_
        refine hs_seq (hs_append (i := 1) rfl (ev_I (C := fun x j => 0 < j) (g := fun i j => i % j) (ev_int1 (ev_var rfl)) ev_int (by decide)) (by rw [List.length_map]; omega) ?_)
        rw [app]
        refine hs_asg (d := .int _) (ev_fdivW (ev_var rfl) ev_int (hc _).1) ?_
        exact ⟨_, _, _, _, _, _, _, rfl, by rw [List.length_append, List.length_singleton]; omega⟩
      · obtain ⟨ms, st, cell, x3, x5, x6, x7, rfl, hms⟩ := hρ
        exact ⟨ms, _, _, _, _, _, _, rfl, by omega⟩
    · refine hs_seq (hs_asg (d := .int _) (ev_I (C := fun x j => 0 < j) (g := fun i j => i % j) (ev_int1 (ev_add (ev_add (ev_I (C := CMul) (g := fun i j => i * j) (ev_var rfl) ev_int (.inr ⟨by decide, by decide⟩)) (ev_I (C := CMul) (g := fun i j => i * j) (ev_var rfl) ev_int (.inr ⟨by decide, by decide⟩))) ev_int)) ev_int (by decide)) ?_)
      refine hs_seq (hs_asg (d := .int _) (ev_I (C := fun x j => 0 < j) (g := fun i j => i % j) (ev_int1 (ev_add (ev_add (ev_I (C := CMul) (g := fun i j => i * j) (ev_var rfl) ev_int (.inr ⟨by decide, by decide⟩)) (ev_I (C := CMul) (g := fun i j => i * j) (ev_var rfl) ev_int (.inr ⟨by decide, by decide⟩))) (ev_var rfl))) ev_int (by decide)) ?_)
      refine hs_asgN (en_cat (ec_var rfl) (EvN.c (en_lst (ds := [.int _, .int _]) (ea_dat (ev_I (C := fun x j => 0 < j) (g := fun i j => i % j) (ev_int1 (ev_fdivW (ev_var rfl) ev_int (hc _).2.1)) ev_int (by decide)) (ea_dat (ev_I (C := fun x j => 0 < j) (g := fun i j => i % j) (ev_int1 (ev_var rfl)) ev_int (by decide)) ea_nil)) (by show 2 ≤ 100000; decide))) (by rw [List.length_map]; show ms.length + 2 ≤ 100000; omega)) ?_
      have app2 : ∀ (ms : List Int) (x y : Int), (ms.map PyData.int) ++ [PyData.int x, PyData.int y] = (ms ++ [x, y]).map PyData.int := fun ms x y => by rw [List.map_append]; rfl
      rw [app2]
      exact ⟨_, _, _, _, _, _, _, rfl, by rw [List.length_append]; show ms.length + 2 ≤ _; omega⟩
  · obtain ⟨ms, st, x3, x4, x5, x6, x7, rfl, hms⟩ := hρ
    refine hs_seq (hs_forN 300 (fun i ρ => ∃ (ms : List Int) (st : Int) (x3 x4 x5 x6 x7 : Sl), ρ = [.bor (ns.map .int), .lis (ms.map .int), .dat (.int st), x3, x4, x5, x6, x7] ∧ i ≤ ms.length ∧ ms.length ≤ 3780 + i) (ei_rangeN ev_int (by decide)) ⟨ms, _, _, _, _, _, _, rfl, by omega, by omega⟩ (fun i ρ hi hρ => ?_) (fun ρ hρ => ?_))
    · obtain ⟨ms, st, x3, x4, x5, x6, x7, rfl, h1, h2⟩ := hρ
      refine hg_name ?_
      refine hs_seq (hs_asg (d := .int _) (ev_I (C := fun x j => 0 < j) (g := fun i j => i % j) (ev_int1 (ev_add (ev_I (C := CMul) (g := fun i j => i * j) (ev_var rfl) ev_int (.inr ⟨by decide, by decide⟩)) ev_int)) ev_int (by decide)) ?_)
      refine hs_append (i := 1) rfl (ev_I (C := fun x j => 0 < j) (g := fun i j => i % j) (ev_int1 (ev_fdivW (ev_var rfl) ev_int (hc _).2.2)) ev_int (by decide)) (by rw [List.length_map]; omega) ?_
      rw [app]
      exact ⟨_, _, _, _, _, _, _, rfl, by rw [List.length_append, List.length_singleton]; omega, by rw [List.length_append, List.length_singleton]; omega⟩
    · obtain ⟨ms, st, x3, x4, x5, x6, x7, rfl, h1, h2⟩ := hρ
      exact hs_retM (i := 1) rfl (hR ms h1 (by omega))
end
end G
end
section
set_option Elab.async false
set_option linter.all false
set_option maxRecDepth 100000
set_option maxHeartbeats 4000000
set_option exponentiation.threshold 3000
/-! walks of the law: what is drawn from the pool -/
namespace G
open PySem PySem.Spec PyProof.Rows L2
local macro_rules | `(tactic| walk_at "ev") => `(tactic| repeat' (first
  | ((with_reducible refine' ev_var ?_); rfl) | ((with_reducible refine' EvD.l (ev_var ?_)); rfl) | ((with_reducible refine' el_bor ?_); rfl) | ((with_reducible refine' EvC.l (ec_var ?_)); rfl) | ((with_reducible refine' evv_var ?_); rfl) | with_reducible exact ev_int | with_reducible exact ev_str | with_reducible exact ev_bl | with_reducible exact ev_non
  | ((with_reducible refine' Tx.evN ?_); assumption) | ((with_reducible refine' Tx.evO ?_); assumption)
  | with_reducible exact ea_nil | with_reducible refine' ea_dat ?_ ?_ | with_reducible refine' ea_bor ?_ ?_ | with_reducible refine' ea_val ?_ ?_
  | with_reducible refine' ev_add ?_ ?_ | with_reducible refine' ev_sub ?_ ?_ | with_reducible refine' ev_mulW ?_ ?_ ?_ | with_reducible refine' ev_neg ?_ | with_reducible refine' ev_cmp ?_ ?_
  | with_reducible refine' ev_q0 ?_ | with_reducible refine' ev_q1 ?_
  | with_reducible refine' ev_k_draw ?_ | with_reducible refine' ev_k_ours ?_ | with_reducible refine' ev_k_theirs ?_ | with_reducible refine' ev_k_reward ?_ | with_reducible refine' ev_k_fin ?_ | with_reducible refine' ev_k_lose ?_
  | with_reducible refine' ev_n_draw ?_ | with_reducible refine' ev_n_ours ?_ | with_reducible refine' ev_n_theirs ?_ | with_reducible refine' ev_n_reward ?_ | with_reducible refine' ev_n_fin ?_ | with_reducible refine' ev_n_lose ?_
  | with_reducible refine' ev_side ?_ ?_ | with_reducible refine' ev_kind ?_
  | with_reducible refine' eb_test ?_ | with_reducible refine' eb_B ?_ | with_reducible refine' ev_int1 ?_ | with_reducible refine' eb_not ?_ | with_reducible refine' eb_or ?_ (fun _ => ?_) | with_reducible refine' eb_and ?_ (fun _ => ?_) | with_reducible refine' ev_t0 ?_ | with_reducible refine' ev_t1 ?_ | with_reducible refine' ev_t2 ?_))
local macro_rules | `(tactic| walk_at "ifT") => `(tactic| (refine' hs_seq (hs_ifT (b := _) ?h ?n ?e); (case h => walk_at "ev"); (case e => rfl)))
local macro_rules | `(tactic| walk_at "ifF") => `(tactic| (refine' hs_seq (hs_ifF (b := _) ?h (hs_next ?n) ?e); (case h => walk_at "ev"); (case e => rfl)))
section
variable {K : PySem.W.Frag} {w : World} {ρ : List Sl} {ta tb te : TE} {ds : List PyData} {tt tu : TT} {t u : TS} {P : Po}
/-- a test of which nothing is known -/
def EvBA (K : PySem.W.Frag) (w : World) (tt : TT) (ρ : List Sl) : Prop := ∀ H0 I H σ, EnvOk K w H0 I H σ ρ → ∀ Q : Bool → Hp → Prop, (∀ b I' H', Le I H I' H' → Q b H') → tt σ H Q
theorem eba_test (h : EvR K w te ρ fun d => ∃ b, d = .bool b) : EvBA K w (tTest te) ρ := fun H0 I H σ e Q q => h H0 I H σ e _ fun d v I1 H1 hd l1 hv => by
  obtain ⟨b, rfl⟩ := hd
  cases dp_bl hv
  exact ⟨b, rfl, q b I1 H1 l1⟩
theorem EvB.a {b : Bool} (h : EvB K w tt ρ b) : EvBA K w tt ρ := fun H0 I H σ e Q q => h H0 I H σ e Q fun I' H' l => q b I' H' l
theorem eba_and (h1 : EvBA K w tt ρ) (h2 : EvBA K w tu ρ) : EvBA K w (tAnd tt tu) ρ := fun H0 I H σ e Q q => h1 H0 I H σ e _ fun b I1 H1 l1 => by
  cases b with
  | true => exact h2 H0 I1 H1 σ (e.mono l1) Q fun b I2 H2 l2 => q b I2 H2 (l1.trans l2)
  | false => exact q false I1 H1 l1
theorem hs_ifA (h : EvBA K w tt ρ) (h1 : HS K w t ρ P) (h2 : HS K w u ρ P) : HS K w (tIfS tt t u) ρ P := fun I0 H0 D I H σ e l q =>
  h H0 I H σ e _ fun b I1 H1 l1 => by
    cases b with
    | true => exact h1 I0 H0 D I1 H1 σ (e.mono l1) (l.trans l1) q
    | false => exact h2 I0 H0 D I1 H1 σ (e.mono l1) (l.trans l1) q
/-- some item of a list -/
theorem evr_ixL (ha : EvL K w ta ρ ds) (hb : EvR K w tb ρ fun d => ∃ k : Nat, d = eN k ∧ k < ds.length) : EvR K w (tOp (rIxL K) ta tb) ρ fun d => d ∈ ds := fun H0 I H σ e Q q =>
  ha H0 I H σ e _ fun a xs I1 H1 l1 h1 h2 => hb H0 I1 H1 σ (e.mono l1) _ fun d u I2 H2 hd l2 hu => by
    obtain ⟨k, rfl, hk⟩ := hd
    cases dp_int hu
    have hg : ds[k]? = some ds[k] := List.getElem?_eq_getElem hk
    obtain ⟨v, hv, hp⟩ := dpa_get h2 hg
    refine ⟨a, xs, (k : Int), v, rfl, rfl, l2.h.l h1, ?_, q _ v I2 H2 (List.getElem_mem hk) (l1.trans l2) (hp.ex l2.i)⟩
    unfold atI
    rw [dpa_len h2, ixN_nat hk]
    exact hv
/-- arguments of which something is known -/
def EvAR (K : PySem.W.Frag) (w : World) (ta : TA) (ρ : List Sl) (R : List PyData → Prop) : Prop := ∀ H0 I H σ, EnvOk K w H0 I H σ ρ → ∀ Q : List V → Hp → Prop, (∀ ds vs I' H', R ds → Le I H I' H' → DpAll K I' vs ds → Q vs H') → ta σ H Q
theorem ear_nil : EvAR K w tNil ρ (· = []) := fun H0 I H σ e Q q => q [] [] I H rfl (.refl e.ih) .nil
theorem ear_cons {tr : TA} {A : PyData → Prop} {B : List PyData → Prop} (h : EvR K w ta ρ A) (hr : EvAR K w tr ρ B) : EvAR K w (tCons ta tr) ρ fun ds => ∃ d ds', ds = d :: ds' ∧ A d ∧ B ds' := fun H0 I H σ e Q q =>
  h H0 I H σ e _ fun d v I1 H1 hd l1 hv => hr H0 I1 H1 σ (e.mono l1) _ fun ds vs I2 H2 hds l2 hvs => q (d :: ds) (v :: vs) I2 H2 ⟨d, ds, rfl, hd, hds⟩ (l1.trans l2) (.cons (hv.ex l2.i) hvs)
theorem evr_tup {ta : TA} {R : List PyData → Prop} (h : EvAR K w ta ρ R) (hl : ∀ ds, R ds → ds.length ≤ 100000) : EvR K w (tTup ta) ρ fun d => ∃ ds, d = .tuple ds ∧ R ds := fun H0 I H σ e Q q =>
  h H0 I H σ e _ fun ds vs I1 H1 hR l1 hd => ⟨sz_of (by rw [dpa_len hd]; exact hl ds hR), fun p hp => q _ _ _ _ ⟨ds, rfl, hR⟩ (l1.trans (.new l1.ih hp)) (.tup (st_of upd_same) (hd.ex (.new (l1.ih.free hp))))⟩
theorem hs_appendR {i : Nat} {R : PyData → Prop} (hi : ρ[i]? = some (.lis ds)) (h : EvR K w te ρ R) (hz : ds.length < 100000) (k : ∀ d, R d → P.nx (ρ.set i (.lis (ds ++ [d])))) : HS K w (tDrop (tBM K "list" rAppend (tVar i) (tCons te tNil))) ρ P := fun I0 H0 D I H σ e l q => by
  obtain ⟨x, hx, a, xs, rfl, h1, h2, h3, h4⟩ := e.slot hi
  refine ⟨.ref a, hx, .inl ⟨rfl, xs, sq_of h3⟩, h H0 I H σ e _ fun d v I1 H1 hd l1 hv => ⟨a, xs, v, rfl, rfl, l1.h a _ h3, sz_lt (by rw [dpa_len h4]; exact hz), ?_⟩⟩
  have e2 := (e.mono l1).chg hi hx (dpa_app (h4.ex l1.i) (dpa_one hv))
  refine q.nx _ σ I1 _ (k d hd) e2 ?_
  have l2 := l.trans l1
  exact ⟨l2.i, e2.base, e2.ih, l2.fr⟩
/-- a draw -/
theorem evr_pick {E : XK} {i n many : Nat} (hi : ρ[i]? = some (.pool n)) (hb : EvD K w tb ρ (eN many)) (h2 : 2 ≤ n) (hn : n ≤ 100000) (hm : 0 < many) : EvR K w (tCall (spD K S_pick) [] E (tCons (tVar i) (tCons tb tNil))) ρ fun d => ∃ r : Nat, d = eN r ∧ r < many :=
  evr_call (as := [.pool n, .dat (eN many)]) (ea_pool hi (ea_dat hb ea_nil)) fun R' hR' => ⟨n, many, rfl, h2, hn, hm, fun r hr => hR' _ ⟨r, rfl, hr⟩⟩
theorem nats_of {p : Nat → Prop} : ∀ {ds : List PyData}, (∀ d ∈ ds, ∃ t : Nat, d = eN t ∧ p t) → ∃ ts : List Nat, ds = ts.map eN ∧ ∀ t ∈ ts, p t
  | [], _ => ⟨[], rfl, fun t h => nomatch h⟩
  | d :: ds, h => by
    obtain ⟨t, rfl, ht⟩ := h d List.mem_cons_self
    obtain ⟨ts, rfl, hts⟩ := nats_of (ds := ds) fun d hd => h d (List.mem_cons_of_mem _ hd)
    exact ⟨t :: ts, rfl, fun s hs => by
      cases hs with
      | head => exact ht
      | tail _ hs => exact hts s hs⟩
theorem pls_of {p : Pl → Prop} : ∀ {ds : List PyData}, (∀ d ∈ ds, ∃ t : Pl, d = ePl t ∧ p t) → ∃ ts : List Pl, ds = ts.map ePl ∧ ∀ t ∈ ts, p t
  | [], _ => ⟨[], rfl, fun t h => nomatch h⟩
  | d :: ds, h => by
    obtain ⟨t, rfl, ht⟩ := h d List.mem_cons_self
    obtain ⟨ts, rfl, hts⟩ := pls_of (ds := ds) fun d hd => h d (List.mem_cons_of_mem _ hd)
    exact ⟨t :: ts, rfl, fun s hs => by
      cases hs with
      | head => exact ht
      | tail _ hs => exact hts s hs⟩
/-- n draws, by a comprehension -/
theorem enr_draws {wi : TI} {g : TG} {vs : List Nat} {enc : Nat → PyData} {R : PyData → Prop} (n : Nat) (hi : EvI (K := K) (w := w) wi ρ ((List.range n).map enc)) (hn : n ≤ 50000)
    (turn : ∀ k, k < n → ∃ f, TgOk K g vs (enc k) f ∧ EvR K w te (f (wipeS ρ vs)) R) : EvNR K w (tLc wi g tYes te vs) ρ fun ds => ds.length = n ∧ ∀ d ∈ ds, R d :=
  (enr_map (List.range n) (fun _ d => R d) hi (by rw [List.length_range]; exact hn) fun a ha => turn a (List.mem_range.mp ha)).imp fun ds h => by
    rw [List.length_range] at h
    refine ⟨h.1, fun d hd => ?_⟩
    obtain ⟨i, hl, e⟩ := List.getElem_of_mem hd
    exact h.2 i i d (by rw [List.getElem?_range (by omega)]) (by rw [List.getElem?_eq_getElem hl, e])
end
section
variable {Pg : Program} {w : World} {K : PySem.W.Frag} {mg : Str → Option Value} {base : Heap} {aN aO : Addr}
/-! _law_stream: level 2; slots 0 _law_script; calls ['_law_pool 1'] -/
abbrev s__law_stream : Stmt := topS 45
theorem sc__law_stream : FnScope ["_law_script"] ["_law_script"] (defScope s__law_stream) := ⟨rfl, rfl, rfl, by decide +kernel, rfl, by decide +kernel, by decide +kernel⟩
def spStreamL (K : PySem.W.Frag) : Sp := fun vs H Q _ => ∃ (a : Addr) (ns : List Int), vs = [.ref a] ∧ SqL K H a (ns.map V.int) ∧ ns.length ≤ 100000 ∧ ∀ (r : Addr) (ms : List Int) (H' : Hp), H r = none → H' r = some (.lst (ms.map V.int)) → 300 ≤ ms.length → ms.length ≤ 5000 → Q (.ref r) H'
def spStream (K : PySem.W.Frag) : Sp := fun vs H Q _ => ∃ (a : Addr) (ns : List Int), vs = [.ref a] ∧ SqL K H a (ns.map V.int) ∧ ns.length ≤ 100000 ∧ ∀ (r : Addr) (n : Nat) (H' : Hp), 300 ≤ n → n ≤ 5000 → H' r = some (PoolO r n) → Q (.ref r) H'
theorem ok__law_streamL {f : Addr} {fd : FuncData} (T : Tx K mg aN aO) (F : Fun K "_law_stream" "_law_stream" s__law_stream f fd) (c__law_pool : Cal Pg w K mg base 1 "_law_pool" (spN K S_pool)) : FnOk Pg w K mg base CX0 2 f fd ["_law_script"] (spStreamL K) := by
  refine F.ok sc__law_stream (fun vs H Q E h => ?_) (fun cdv A outer s H vs Q E hr h => ?_)
  · obtain ⟨_, _, rfl, _⟩ := h; rfl
  obtain ⟨a, ns, rfl, hH, hn, q⟩ := h
  have nd := sc__law_stream.nd
  refine ⟨_, (pss_one (ps_ret (pe_op op_cat (pe_lst (pa_cons pe_int pa_nil)) (pe_c c__law_pool hr (by decide) (by rfl) (pa_cons (pv 0) pa_nil))))), ?_⟩
  refine ⟨by decide, fun p hp => ⟨.ref a, rfl, upd H p (.lst [.int 0]), [.bor (ns.map .int)], .refl _, .cons ⟨a, ns.map V.int, rfl, (Ex.new hp).l hH, dpa_of_ints ns⟩ .nil, ns, rfl, hn, fun ms h1 h2 l xs I' H' le e1 e2 e3 e4 => ?_⟩⟩
  have hx := dpa_ints e4
  subst hx
  refine ⟨p, l, [.int 0], _, rfl, rfl, le.h p _ upd_same, e3, sz_of (by rw [List.length_map]; show 1 + ms.length ≤ 100000; omega), fun r hr' => ?_⟩
  exact q r (0 :: ms) _ ((Ex.new hp).free (le.h.free hr')) upd_same (by rw [List.length_cons]; omega) (by rw [List.length_cons]; omega)
theorem ok__law_stream {f : Addr} {fd : FuncData} (T : Tx K mg aN aO) (F : Fun K "_law_stream" "_law_stream" s__law_stream f fd) (c__law_pool : Cal Pg w K mg base 1 "_law_pool" (spN K S_pool)) : FnOk Pg w K mg base CX0 2 f fd ["_law_script"] (spStream K) :=
  fn_made (ok__law_streamL T F c__law_pool) (fun vs H Q E h => by obtain ⟨_, _, rfl, _⟩ := h; rfl) fun vs H Q E h => by
    obtain ⟨a, ns, rfl, h1, h2, hq⟩ := h
    exact ⟨a, ns, rfl, h1, h2, fun r ms H' e1 e2 e3 e4 => ⟨r, ms, rfl, e1, e2, hq r ms.length _ e3 e4 upd_same⟩⟩
/-! _law_strategy: level 2; slots 0 _law_pool_here, 1 _law_game_here, 2 _law_side, 3 _law_found, 4 _law_place_here; calls ['_law_pick 1'] -/
abbrev s__law_strategy : Stmt := topS 50
theorem sc__law_strategy : FnScope ["_law_pool_here", "_law_game_here", "_law_side", "_law_found", "_law_place_here"] ["_law_pool_here", "_law_game_here", "_law_side"] (defScope s__law_strategy) := ⟨rfl, rfl, rfl, by decide +kernel, rfl, by decide +kernel, by decide +kernel⟩
def S_lstrategy : List Ar → (PyData → Prop) → Prop := fun as R => ∃ (n : Nat) (g : Game) (s : Sd), as = [.pool n, .dat (eG g), .dat (.str (sdS s))] ∧ 2 ≤ n ∧ n ≤ 100000 ∧ GOk g ∧ ∀ st : Strat, StOk s g st → R (eSt st)
theorem gm_ne {g : Game} (hg : GOk g) {i : Nat} {s : Sd} (hi : i < g.length) (hs : (pat g i).side = some s) : 0 < (pat g i).tgs.length := by
  have := gok_ne hg hi (by rw [hs]; exact fun z => by cases z)
  cases hx : (pat g i).tgs with
  | nil => exact absurd hx this
  | cons a r => exact Nat.succ_pos _
theorem ok__law_strategy {f : Addr} {fd : FuncData} (T : Tx K mg aN aO) (F : Fun K "_law_strategy" "_law_strategy" s__law_strategy f fd) (c__law_pick : Cal Pg w K mg base 1 "_law_pick" (spD K S_pick)) : FnOk Pg w K mg base CX0 2 f fd ["_law_pool_here", "_law_game_here", "_law_side"] (spD K S_lstrategy) := by
  refine fok F sc__law_strategy (fun as R h => ?len) fun cdv A outer s H E hr => ?_
  case len => obtain ⟨_, _, _, rfl, _⟩ := h; rfl
  have nd := sc__law_strategy.nd
  refine ⟨_, (pss_cons (ps_set (i := 3) nd rfl (Or.inl rfl) (pe_lst pa_nil))
        (pss_cons (ps_for PassesOwn.never rfl (ki_list (K := K) rfl (pv 1)) (pg_name (i := 4) nd rfl (Or.inl rfl)) (pss_one (ps_if (pt_cmpR op_eq (kx_ixT (K := K) rfl (pv 4) pe_int (fun _ _ => rfl)) (pv 2) (nomark _)) (pss_one (ps_expr (kx_append (K := K) rfl (pv 3) (pa_cons (pe_c c__law_pick hr (by decide) (by rfl) (pa_cons (pv 0) (pa_cons (kx_len (K := K) rfl (by rfl) T.len (pa_cons (kx_ixT (K := K) rfl (pv 4) pe_int (fun _ _ => rfl)) pa_nil)) pa_nil))) pa_nil)))) (pss_one (ps_expr (kx_append (K := K) rfl (pv 3) (pa_cons pe_non pa_nil)))))))
        (pss_one (ps_ret (pv 3))))), fun as R hS => ?_⟩
  obtain ⟨n, g, s, rfl, h2, hn, hg, hR⟩ := hS
  have hgl := hg.len
  refine hs_seq (hs_asgN (en_lst (ds := []) ea_nil (by show 0 ≤ 100000; decide)) ?_)
  refine hs_seq (hs_forM g (enc := ePl) (fun j ρ => ∃ (os : Strat) (x4 : Sl), ρ = [.pool n, .dat (eG g), .dat (.str (sdS s)), .lis (os.map eO), x4] ∧ os.length = j ∧ ∀ i, i < j → ((pat g i).side = some s → ∃ b, os[i]? = some (some b) ∧ b < (pat g i).tgs.length) ∧ ((pat g i).side ≠ some s → os[i]? = some none)) (ei_listM (ev_var rfl)) ⟨[], _, rfl, rfl, fun i hi => absurd hi (by omega)⟩ (fun j p ρ hj hρ => ?_) (fun ρ hρ => ?_))
  · obtain ⟨os, x4, rfl, hol, ho⟩ := hρ
    have hjl : j < g.length := (List.getElem?_eq_some_iff.mp hj).1
    have hp : p = pat g j := by
      have := pat_get hjl
      rw [hj] at this
      exact Option.some.inj this
    subst hp
    have app : ∀ o : Option Nat, os.map eO ++ [eO o] = (os ++ [o]).map eO := fun o => by rw [List.map_append]; rfl
    have hold : ∀ (o : Option Nat) i, i < j → ((os ++ [o])[i]? = os[i]?) := fun o i hi => List.getElem?_append_left (by omega)
    have hnew : ∀ (o : Option Nat), (os ++ [o])[j]? = some o := fun o => by rw [List.getElem?_append_right (by omega), hol, Nat.sub_self]; rfl
    refine hg_name ?_
    refine hs_if (b := decide ((pat g j).side = some s)) (eb_test (ev_side (ev_var rfl) (ev_var rfl))) (fun h => ?_) (fun h => ?_)
    · have hs := of_decide_eq_true h
      have hlen : ∀ {ρ : List Sl}, ρ[4]? = some (.dat (ePl (pat g j))) → EvD K w (tCB (fun xs H Q => ∃ p ys, xs = [V.ref p] ∧ (SqL K H p ys ∨ SqT K H p ys) ∧ Q (.int ys.length) H) (tCons (tOp (rIxT K) (tVar 4) (tC (.int 1))) tNil)) ρ (eN (pat g j).tgs.length) := fun hx => by
        rw [side_form hs] at hx
        exact (ev_len (EvD.l (ev_t1 (ev_var hx)))).is (by rw [List.length_map]; rfl)
      refine hs_appendR (i := 3) rfl (evr_pick rfl (hlen rfl) h2 hn (gm_ne hg hjl hs)) (by rw [List.length_map]; omega) fun d hd => ?_
      obtain ⟨r, rfl, hr⟩ := hd
      refine ⟨os ++ [some r], .dat (ePl (pat g j)), ?_, by rw [List.length_append, hol]; rfl, fun i hi => ?_⟩
      · rw [← app]
        rfl
      · by_cases e : i = j
        · subst e
          rw [hnew]
          exact ⟨fun _ => ⟨r, rfl, hr⟩, fun z => absurd hs z⟩
        · rw [hold _ i (by omega)]
          exact ho i (by omega)
    · have hs := of_decide_eq_false h
      refine hs_append (i := 3) rfl (d := eO none) ev_non (by rw [List.length_map]; omega) ⟨os ++ [none], .dat (ePl (pat g j)), ?_, by rw [List.length_append, hol]; rfl, fun i hi => ?_⟩
      · rw [← app]
        rfl
      · by_cases e : i = j
        · subst e
          rw [hnew]
          exact ⟨fun z => absurd z hs, fun _ => rfl⟩
        · rw [hold _ i (by omega)]
          exact ho i (by omega)
  · obtain ⟨os, x4, rfl, hol, ho⟩ := hρ
    exact hs_retF (i := 3) rfl (hR os ⟨hol, fun i hi hs => (ho i hi).1 hs, fun i hi hs => (ho i hi).2 hs⟩)
end
end G
end
section
set_option Elab.async false
set_option linter.all false
set_option maxRecDepth 100000
set_option maxHeartbeats 4000000
set_option exponentiation.threshold 3000
/-! walks of the law: a place, a game -/
namespace G
open PySem PySem.Spec PyProof.Rows L2
local macro_rules | `(tactic| walk_at "ev") => `(tactic| repeat' (first
  | ((with_reducible refine' ev_var ?_); rfl) | ((with_reducible refine' EvD.l (ev_var ?_)); rfl) | ((with_reducible refine' el_bor ?_); rfl) | ((with_reducible refine' EvC.l (ec_var ?_)); rfl) | ((with_reducible refine' evv_var ?_); rfl) | with_reducible exact ev_int | with_reducible exact ev_str | with_reducible exact ev_bl | with_reducible exact ev_non
  | ((with_reducible refine' Tx.evN ?_); assumption) | ((with_reducible refine' Tx.evO ?_); assumption)
  | with_reducible exact ea_nil | with_reducible refine' ea_dat ?_ ?_ | with_reducible refine' ea_bor ?_ ?_ | with_reducible refine' ea_val ?_ ?_
  | with_reducible refine' ev_add ?_ ?_ | with_reducible refine' ev_sub ?_ ?_ | with_reducible refine' ev_mulW ?_ ?_ ?_ | with_reducible refine' ev_neg ?_ | with_reducible refine' ev_cmp ?_ ?_
  | with_reducible refine' ev_q0 ?_ | with_reducible refine' ev_q1 ?_
  | with_reducible refine' ev_k_draw ?_ | with_reducible refine' ev_k_ours ?_ | with_reducible refine' ev_k_theirs ?_ | with_reducible refine' ev_k_reward ?_ | with_reducible refine' ev_k_fin ?_ | with_reducible refine' ev_k_lose ?_
  | with_reducible refine' ev_n_draw ?_ | with_reducible refine' ev_n_ours ?_ | with_reducible refine' ev_n_theirs ?_ | with_reducible refine' ev_n_reward ?_ | with_reducible refine' ev_n_fin ?_ | with_reducible refine' ev_n_lose ?_
  | with_reducible refine' ev_side ?_ ?_ | with_reducible refine' ev_kind ?_
  | with_reducible refine' eb_test ?_ | with_reducible refine' eb_B ?_ | with_reducible refine' ev_int1 ?_ | with_reducible refine' eb_not ?_ | with_reducible refine' eb_or ?_ (fun _ => ?_) | with_reducible refine' eb_and ?_ (fun _ => ?_) | with_reducible refine' ev_t0 ?_ | with_reducible refine' ev_t1 ?_ | with_reducible refine' ev_t2 ?_))
local macro_rules | `(tactic| walk_at "ifT") => `(tactic| (refine' hs_seq (hs_ifT (b := _) ?h ?n ?e); (case h => walk_at "ev"); (case e => rfl)))
local macro_rules | `(tactic| walk_at "ifF") => `(tactic| (refine' hs_seq (hs_ifF (b := _) ?h (hs_next ?n) ?e); (case h => walk_at "ev"); (case e => rfl)))
def kinds : List Str := [Str.ofString "ours", Str.ofString "theirs", Str.ofString "draw", Str.ofString "draw", Str.ofString "ours", Str.ofString "theirs", Str.ofString "draw", Str.ofString "reward", Str.ofString "finish", Str.ofString "lose"]
def kindsD : PyData := .list (kinds.map .str)
theorem od_eqInt {K : PySem.W.Frag} {i j : Int} : OpD K rEq (.int i) (.int j) (.bool (decide (V.int i = V.int j))) := fun I H v u e hv hu Q q => by
  cases dp_int hv; cases dp_int hu
  exact ⟨rfl, q _ I H (.refl e) (.bl _)⟩
/-- draws for each of a list -/
theorem enr_drawsL {K : PySem.W.Frag} {w : World} {ρ : List Sl} {te : TE} {α : Type} {wi : TI} {g : TG} {vs : List Nat} {enc : α → PyData} {R : PyData → Prop} (xs : List α) (hi : EvI (K := K) (w := w) wi ρ (xs.map enc)) (hn : xs.length ≤ 50000)
    (turn : ∀ a ∈ xs, ∃ f, TgOk K g vs (enc a) f ∧ EvR K w te (f (wipeS ρ vs)) R) : EvNR K w (tLc wi g tYes te vs) ρ fun ds => ds.length = xs.length ∧ ∀ d ∈ ds, R d :=
  (enr_map xs (fun _ d => R d) hi hn turn).imp fun ds h => by
    refine ⟨h.1, fun d hd => ?_⟩
    obtain ⟨i, hl, e⟩ := List.getElem_of_mem hd
    exact h.2 i (xs[i]'(by omega)) d (List.getElem?_eq_getElem _) (by rw [List.getElem?_eq_getElem hl, e])
theorem sum_cast : ∀ l : List Nat, (l.map fun n => ((n : Nat) : Int)).sum = ((l.sum : Nat) : Int)
  | [] => rfl
  | a :: l => by rw [List.map_cons, List.sum_cons, List.sum_cons, sum_cast l]; omega
theorem sum_div (S : Nat) : ∀ l : List Nat, (l.map fun a : Nat => Rat.divInt ((a : Nat) : Int) ((S : Nat) : Int)).sum = ((l.sum : Nat) : Rat) / (S : Rat)
  | [] => by show (0 : Rat) = ((0 : Nat) : Rat) / _; rw [Rat.div_def]; show (0 : Rat) = 0 * _; grind
  | a :: l => by
    rw [List.map_cons, List.sum_cons, List.sum_cons, sum_div S l, Rat.divInt_eq_div, Rat.natCast_add, Rat.intCast_natCast, Rat.intCast_natCast]
    grind
theorem sum_bounds : ∀ l : List Nat, (∀ a ∈ l, 1 ≤ a ∧ a ≤ 3) → l.length ≤ l.sum ∧ l.sum ≤ 3 * l.length
  | [], _ => ⟨Nat.le_refl _, Nat.le_refl _⟩
  | a :: l, h => by
    have h1 := sum_bounds l fun b hb => h b (List.mem_cons_of_mem _ hb)
    have h2 := h a List.mem_cons_self
    rw [List.sum_cons, List.length_cons]
    omega
theorem pok_mono {k n : Nat} (h : k ≤ n) {p : Pl} (hp : POk k p) : POk n p := by
  cases p with
  | draw bs => exact ⟨hp.1, hp.2.1, fun b hb => ⟨(hp.2.2.1 b hb).1, Nat.lt_of_lt_of_le (hp.2.2.1 b hb).2 h⟩, hp.2.2.2.1, hp.2.2.2.2⟩
  | ours ts => exact ⟨hp.1, hp.2.1, fun t ht => Nat.lt_of_lt_of_le (hp.2.2 t ht) h⟩
  | theirs ts => exact ⟨hp.1, hp.2.1, fun t ht => Nat.lt_of_lt_of_le (hp.2.2 t ht) h⟩
  | reward r x => exact ⟨hp.1, Nat.lt_of_lt_of_le hp.2 h⟩
  | fin => trivial
  | lose => trivial
/-- the branches of a draw -/
def mkBs (ss ts : List Nat) : List (Rat × Nat) := (List.range ss.length).map fun k => (Rat.divInt (ss.getD k 0 : Nat) (ss.sum : Nat), ts.getD k 0)
theorem mk_ok {ss ts : List Nat} {many : Nat} (h1 : 1 ≤ ss.length) (h6 : ss.length ≤ 6) (hl : ts.length = ss.length) (hs : ∀ a ∈ ss, 1 ≤ a ∧ a ≤ 3) (ht : ∀ t ∈ ts, t < many) : POk many (.draw (mkBs ss ts)) := by
  obtain ⟨b1, b2⟩ := sum_bounds ss hs
  have hSpos : 0 < ss.sum := by omega
  have hSr : (0 : Rat) < ((ss.sum : Nat) : Rat) := by exact_mod_cast hSpos
  have hg : ∀ k, k < ss.length → ss.getD k 0 ∈ ss := fun k hk => by
    rw [List.getD_eq_getElem?_getD, List.getElem?_eq_getElem hk]; exact List.getElem_mem hk
  have hg2 : ∀ k, k < ss.length → ts.getD k 0 ∈ ts := fun k hk => by
    rw [List.getD_eq_getElem?_getD, List.getElem?_eq_getElem (by omega)]; exact List.getElem_mem (by omega)
  have hdiv : ∀ a : Nat, Rat.divInt (a : Int) ((ss.sum : Nat) : Int) = (a : Rat) / ((ss.sum : Nat) : Rat) := fun a => by
    rw [Rat.divInt_eq_div, Rat.intCast_natCast, Rat.intCast_natCast]
  have hmem : ∀ b ∈ mkBs ss ts, ∃ k, k < ss.length ∧ b = (Rat.divInt (ss.getD k 0 : Nat) (ss.sum : Nat), ts.getD k 0) := fun b hb => by
    obtain ⟨k, hk, rfl⟩ := List.mem_map.mp hb
    exact ⟨k, List.mem_range.mp hk, rfl⟩
  refine ⟨?_, by unfold mkBs; rw [List.length_map, List.length_range]; exact h6, fun b hb => ?_, ?_, ss.sum, hSpos, by omega, fun b hb => ?_⟩
  · intro z
    have : (mkBs ss ts).length = 0 := by rw [z]; rfl
    unfold mkBs at this
    rw [List.length_map, List.length_range] at this
    omega
  · obtain ⟨k, hk, rfl⟩ := hmem b hb
    refine ⟨?_, ht _ (hg2 k hk)⟩
    show 0 < Rat.divInt _ _
    rw [hdiv]
    refine div_pos' ?_ hSr
    have := (hs _ (hg k hk)).1
    exact_mod_cast this
  · have e : (mkBs ss ts).map (·.1) = ss.map fun a : Nat => Rat.divInt ((a : Nat) : Int) ((ss.sum : Nat) : Int) := by
      unfold mkBs
      rw [List.map_map]
      apply List.ext_getElem?
      intro j
      rw [List.getElem?_map, List.getElem?_map]
      by_cases h : j < ss.length
      · rw [List.getElem?_range h, List.getElem?_eq_getElem h]
        simp only [Option.map_some, Function.comp_apply]
        rw [List.getD_eq_getElem?_getD, List.getElem?_eq_getElem h]; rfl
      · rw [List.getElem?_eq_none (by rw [List.length_range]; omega), List.getElem?_eq_none (by omega)]; rfl
    rw [e, sum_div]
    grind
  · obtain ⟨k, hk, rfl⟩ := hmem b hb
    refine ⟨ss.getD k 0, ?_⟩
    show Rat.divInt ((ss.getD k 0 : Nat) : Int) ((ss.sum : Nat) : Int) * ((ss.sum : Nat) : Rat) = ((ss.getD k 0 : Nat) : Rat)
    rw [hdiv]
    grind
section
variable {Pg : Program} {w : World} {K : PySem.W.Frag} {mg : Str → Option Value} {base : Heap} {aN aO : Addr}
/-! _law_place: level 2; slots 0 _law_pool_here, 1 _law_many, 2 _law_kinds, 3 _law_kind, 4 _law_width, 5 _law_goals_here, 6 _law_shares, 7 _law_k, 8 _law_goal; calls ['_law_pick 1', '_law_lowest 1'] -/
abbrev s__law_place : Stmt := topS 48
theorem sc__law_place : FnScope ["_law_pool_here", "_law_many", "_law_kinds", "_law_kind", "_law_width", "_law_goals_here", "_law_shares", "_law_k", "_law_goal"] ["_law_pool_here", "_law_many", "_law_kinds"] (defScope s__law_place) := ⟨rfl, rfl, rfl, by decide +kernel, rfl, by decide +kernel, by decide +kernel⟩
def S_lplace : List Ar → (PyData → Prop) → Prop := fun as R => ∃ (n many : Nat), as = [.pool n, .dat (eN many), .dat kindsD] ∧ 2 ≤ n ∧ n ≤ 100000 ∧ 0 < many ∧ many ≤ 12 ∧ ∀ p : Pl, POk many p → R (ePl p)
theorem ok__law_place {f : Addr} {fd : FuncData} (T : Tx K mg aN aO) (F : Fun K "_law_place" "_law_place" s__law_place f fd) (c__law_pick : Cal Pg w K mg base 1 "_law_pick" (spD K S_pick)) (c__law_lowest : Cal Pg w K mg base 1 "_law_lowest" (spD K S_lowest)) : FnOk Pg w K mg base CX0 2 f fd ["_law_pool_here", "_law_many", "_law_kinds"] (spD K S_lplace) := by
  refine fok F sc__law_place (fun as R h => ?len) fun cdv A outer s H E hr => ?_
  case len => obtain ⟨_, _, rfl, _⟩ := h; rfl
  have nd := sc__law_place.nd
  refine ⟨_, (pss_cons (ps_set (i := 3) nd rfl (Or.inl rfl) (kx_ixL (K := K) rfl (pv 2) (pe_c c__law_pick hr (by decide) (by rfl) (pa_cons (pv 0) (pa_cons (kx_len (K := K) rfl (by rfl) T.len (pa_cons (pv 2) pa_nil)) pa_nil))) (fun _ _ => rfl)))
        (pss_cons (ps_if (kt_in (K := K) rfl (pv 3) (pe_lst (pa_cons pe_str (pa_cons pe_str pa_nil))) rfl) (pss_one (ps_ret (pe_tup (pa_cons (pv 3) pa_nil)))) pss_nil)
        (pss_cons (ps_if (pt_cmpR op_eq (pv 3) pe_str (nomark _)) (pss_one (ps_ret (pe_tup (pa_cons pe_str (pa_cons (pe_tup (pa_cons (pe_c c__law_pick hr (by decide) (by rfl) (pa_cons (pv 0) (pa_cons pe_int pa_nil))) (pa_cons pe_int pa_nil))) (pa_cons (pe_c c__law_pick hr (by decide) (by rfl) (pa_cons (pv 0) (pa_cons (pv 1) pa_nil))) pa_nil)))))) pss_nil)
        (pss_cons (ps_set (i := 4) nd rfl (Or.inl rfl) (kx_ixL (K := K) rfl (pe_lst (pa_cons pe_int (pa_cons pe_int (pa_cons pe_int (pa_cons pe_int (pa_cons pe_int (pa_cons pe_int pa_nil))))))) (pe_c c__law_pick hr (by decide) (by rfl) (pa_cons (pv 0) (pa_cons pe_int pa_nil))) (fun _ _ => rfl)))
        (pss_cons (ps_asg (pe_lc (own := [("_law_k", 7)]) (g := (gName 7)) (by rfl) nd (pi_range1 (by rfl) T.range (pa_cons (pv 4) pa_nil)) (blkOk_by (N := ["_law_pool_here", "_law_many", "_law_kinds", "_law_kind", "_law_width", "_law_goals_here", "_law_shares", "_law_k", "_law_goal"]) (sc := defScope s__law_place) (by decide +kernel)) (fun _ _ _ _ _ => (pg_name (i := 7) nd rfl (Or.inl rfl))) (fun _ _ _ _ _ => pts_nil) (fun _ _ _ _ _ => (pe_c c__law_pick hr (by decide) (by rfl) (pa_cons (pv 0) (pa_cons (pv 1) pa_nil))))) (pg_name (i := 5) nd rfl (Or.inr rfl)))
        (pss_cons (ps_if (pt_cmpR op_ne (pv 3) pe_str (nomark _)) (pss_one (ps_ret (pe_tup (pa_cons (pv 3) (pa_cons (pv 5) pa_nil))))) pss_nil)
        (pss_cons (ps_asg (pe_lc (own := [("_law_goal", 8)]) (g := (gName 8)) (by rfl) nd (ki_list (K := K) rfl (pv 5)) (blkOk_by (N := ["_law_pool_here", "_law_many", "_law_kinds", "_law_kind", "_law_width", "_law_goals_here", "_law_shares", "_law_k", "_law_goal"]) (sc := defScope s__law_place) (by decide +kernel)) (fun _ _ _ _ _ => (pg_name (i := 8) nd rfl (Or.inl rfl))) (fun _ _ _ _ _ => pts_nil) (fun _ _ _ _ _ => (pe_op op_add pe_int (pe_c c__law_pick hr (by decide) (by rfl) (pa_cons (pv 0) (pa_cons pe_int pa_nil)))))) (pg_name (i := 6) nd rfl (Or.inr rfl)))
        (pss_one (ps_ret (pe_tup (pa_cons pe_str (pa_cons (pe_lc (own := [("_law_k", 7)]) (g := (gName 7)) (by rfl) nd (pi_range1 (by rfl) T.range (pa_cons (pv 4) pa_nil)) (blkOk_by (N := ["_law_pool_here", "_law_many", "_law_kinds", "_law_kind", "_law_width", "_law_goals_here", "_law_shares", "_law_k", "_law_goal"]) (sc := defScope s__law_place) (by decide +kernel)) (fun _ _ _ _ _ => (pg_name (i := 7) nd rfl (Or.inl rfl))) (fun _ _ _ _ _ => pts_nil) (fun _ _ _ _ _ => (pe_tup (pa_cons (pe_c c__law_lowest hr (by decide) (by rfl) (pa_cons (kx_ixL (K := K) rfl (pv 6) (pv 7) (fun _ _ => rfl)) (pa_cons (kx_sum (K := K) rfl rfl (by rfl) T.sum (pa_cons (pv 6) pa_nil)) pa_nil))) (pa_cons (kx_ixL (K := K) rfl (pv 5) (pv 7) (fun _ _ => rfl)) pa_nil))))) pa_nil)))))))))))), fun as R hS => ?_⟩
  obtain ⟨n, many, rfl, h2, hn, hm, hm12, hR⟩ := hS
  refine hs_seq (hs_asgR (evr_ixL (EvD.l (ev_var rfl)) (evr_pick (many := 10) rfl ((ev_len (EvD.l (ev_var rfl))).is rfl) h2 hn (by decide))) fun d hd => ?_)
  obtain ⟨s, hs, rfl⟩ := List.mem_map.mp hd
  have hs6 : s = Str.ofString "ours" ∨ s = Str.ofString "theirs" ∨ s = Str.ofString "draw" ∨ s = Str.ofString "reward" ∨ s = Str.ofString "finish" ∨ s = Str.ofString "lose" := by
    unfold kinds at hs
    simp only [List.mem_cons, List.not_mem_nil, or_false] at hs
    rcases hs with h | h | h | h | h | h | h | h | h | h <;> simp [h]
  refine hs_seq (hs_if (eb_test (ev_inS (ns := [Str.ofString "finish", Str.ofString "lose"]) (ev_var rfl) (EvN.l (en_lst (ds := [.str (Str.ofString "finish"), .str (Str.ofString "lose")]) (ea_dat ev_str (ea_dat ev_str ea_nil)) (by show 2 ≤ 100000; decide))))) (fun h => ?_) (fun h => hs_next ?_))
  · have h' := of_decide_eq_true h
    refine hs_ret (ev_tup (ds := [.str s]) (ea_dat (ev_var rfl) ea_nil) (by show 1 ≤ 100000; decide)) ?_
    simp only [List.mem_cons, List.not_mem_nil, or_false] at h'
    rcases h' with rfl | rfl
    · exact hR .fin trivial
    · exact hR .lose trivial
  have hn1 := of_decide_eq_false h
  refine hs_seq (hs_if (eb_test (ev_eqStr (ev_var rfl) ev_str)) (fun h => ?_) (fun h => hs_next ?_))
  · refine hs_retR (evr_tup (ear_cons (ev_str.toR (R := (· = .str (Str.ofString "reward"))) rfl) (ear_cons (evr_tup (ear_cons (evr_pick (many := 3) rfl ev_int h2 hn (by decide)) (ear_cons (ev_int.toR (R := (· = .int 1)) rfl) ear_nil)) fun ds hds => ?_) (ear_cons (evr_pick rfl (ev_var rfl) h2 hn hm) ear_nil))) fun ds hds => ?_) fun d hd => ?_
    · obtain ⟨_, _, rfl, _, _, _, rfl, _, rfl⟩ := hds; show 2 ≤ 100000; decide
    · obtain ⟨_, _, rfl, _, _, _, rfl, _, _, _, rfl, _, rfl⟩ := hds; show 3 ≤ 100000; decide
    · obtain ⟨_, rfl, _, _, rfl, rfl, _, _, rfl, ⟨_, rfl, _, _, rfl, ⟨r, rfl, hr⟩, _, _, rfl, rfl, rfl⟩, _, _, rfl, ⟨x, rfl, hx⟩, rfl⟩ := hd
      have hr3 : r = 0 ∨ r = 1 ∨ r = 2 := by omega
      rcases hr3 with rfl | rfl | rfl
      · exact hR (.reward 0 x) ⟨.inl rfl, hx⟩
      · exact hR (.reward 1 x) ⟨.inr (.inl rfl), hx⟩
      · exact hR (.reward 2 x) ⟨.inr (.inr rfl), hx⟩
  have hn2 := of_decide_eq_false h
  have hs3 : s = Str.ofString "ours" ∨ s = Str.ofString "theirs" ∨ s = Str.ofString "draw" := by
    simp only [List.mem_cons, List.not_mem_nil, or_false, not_or] at hn1
    rcases hs6 with h | h | h | h | h | h
    · exact .inl h
    · exact .inr (.inl h)
    · exact .inr (.inr h)
    · exact absurd h hn2
    · exact absurd h hn1.1
    · exact absurd h hn1.2
  refine hs_seq (hs_asgR (evr_ixL (EvN.l (en_lst (ds := [.int 2, .int 2, .int 3, .int 1, .int 2, .int 6]) (ea_dat ev_int (ea_dat ev_int (ea_dat ev_int (ea_dat ev_int (ea_dat ev_int (ea_dat ev_int ea_nil)))))) (by show 6 ≤ 100000; decide))) (evr_pick (many := 6) rfl ev_int h2 hn (by decide))) fun d hd => ?_)
  have hwd : ∃ wd : Nat, d = eN wd ∧ 1 ≤ wd ∧ wd ≤ 6 := by
    simp only [List.mem_cons, List.not_mem_nil, or_false] at hd
    rcases hd with h | h | h | h | h | h
    · exact ⟨2, h, by decide, by decide⟩
    · exact ⟨2, h, by decide, by decide⟩
    · exact ⟨3, h, by decide, by decide⟩
    · exact ⟨1, h, by decide, by decide⟩
    · exact ⟨2, h, by decide, by decide⟩
    · exact ⟨6, h, by decide, by decide⟩
  obtain ⟨wd, rfl, hw1, hw6⟩ := hwd
  refine hs_seq (hs_asgNR (enr_draws (enc := eN) wd (ei_rangeN (ev_var rfl) (by omega)) (by omega) fun k hk => ⟨_, .name 7 (eN k), evr_pick rfl (ev_var rfl) h2 hn hm⟩) fun ds hds => ?_)
  obtain ⟨ts, rfl, hts⟩ := nats_of hds.2
  have htl : ts.length = wd := by have := hds.1; rw [List.length_map] at this; exact this
  refine hs_freeze (i := 5) rfl ?_
  refine hs_seq (hs_if (eb_test (ev_neStr (ev_var rfl) ev_str)) (fun h => ?_) (fun h => hs_next ?_))
  · rw [Bool.not_eq_true', decide_eq_false_iff_not] at h
    refine hs_ret (ev_tup (ds := [.str s, eNs ts]) (ea_dat (ev_var rfl) (ea_dat (ev_var rfl) ea_nil)) (by show 2 ≤ 100000; decide)) ?_
    have hne : ts ≠ [] := fun z => by rw [z] at htl; simp at htl; omega
    rcases hs3 with rfl | rfl | rfl
    · exact hR (.ours ts) ⟨hne, by omega, hts⟩
    · exact hR (.theirs ts) ⟨hne, by omega, hts⟩
    · exact absurd rfl h
  refine hs_seq (hs_asgNR (enr_drawsL (enc := eN) (R := fun d => ∃ t : Nat, d = eN t ∧ 1 ≤ t ∧ t ≤ 3) ts (ei_list (ev_var rfl)) (by omega) fun k hk => ⟨_, .name 8 (eN k), evr_op (ev_int.toR (R := (· = .int 1)) rfl) (evr_pick (many := 3) rfl ev_int h2 hn (by decide)) fun x y hx hy => ?_⟩) fun ds hds => ?_)
  · obtain ⟨r, rfl, hr⟩ := hy
    subst hx
    refine ⟨eN (1 + r), ⟨1 + r, rfl, by omega, by omega⟩, od_I0 fun I => ?_⟩
    show Dp K I (.int (1 + (r : Int))) (.int ((1 + r : Nat) : Int))
    rw [show ((1 + r : Nat) : Int) = 1 + (r : Int) by omega]
    exact .int _
  obtain ⟨ss, rfl, hss⟩ := nats_of hds.2
  have hsl : ss.length = wd := by have := hds.1; rw [List.length_map] at this; omega
  have hb := sum_bounds ss hss
  refine hs_freeze (i := 6) rfl ?_
  have hgs : ∀ k, k < wd → ss[k]? = some (ss.getD k 0) := fun k hk => by rw [List.getD_eq_getElem?_getD, List.getElem?_eq_getElem (by omega)]; rfl
  have hgt : ∀ k, k < wd → ts[k]? = some (ts.getD k 0) := fun k hk => by rw [List.getD_eq_getElem?_getD, List.getElem?_eq_getElem (by omega)]; rfl
  refine hs_ret (ev_tup (ds := [.str (Str.ofString "draw"), .list ((mkBs ss ts).map eB)]) (ea_dat ev_str (ea_dat ((EvN.f (en_mapF (n := wd) (enc := eN) (fun k => eB (Rat.divInt (ss.getD k 0 : Nat) (ss.sum : Nat), ts.getD k 0)) (ei_rangeN (ev_var rfl) (by omega)) (by omega) fun k hk => ⟨_, .name 7 (eN k), ev_tup (ds := [_, _]) (ea_dat (ev_call (as := [.dat (.int ((ss.getD k 0 : Nat) : Int)), .dat (.int ((ss.sum : Nat) : Int))]) (ea_dat (ev_ixM (enc := eN) (xs := ss) (k := k) (EvD.l (ev_var rfl)) (ev_var rfl) (hgs k hk)) (ea_dat ((ev_sum (ns := ss.map fun n => ((n : Nat) : Int)) (EvD.l (ev_var (d := .list _) (by rw [← eNs_int]; rfl)))).is (by rw [sum_cast])) ea_nil)) fun R' hR' => ⟨_, _, rfl, by omega, ?_, hR'⟩) (ea_dat (ev_ixM (enc := eN) (xs := ts) (k := k) (EvD.l (ev_var rfl)) (ev_var rfl) (hgt k hk)) ea_nil)) (by show 2 ≤ 100000; decide)⟩)).is ?_) ea_nil)) (by show 2 ≤ 100000; decide)) (hR (.draw (mkBs ss ts)) (mk_ok (by omega) (by omega) (by omega) hss hts))
  · unfold mkBs
    rw [List.map_map, hsl]
    rfl
  · rw [Int.natAbs_natCast]
    exact Nat.lt_of_le_of_lt (show ss.sum ≤ 18 by omega) (Nat.lt_of_lt_of_le (by decide : 18 < 2 ^ 5) (Nat.pow_le_pow_right (by decide) (by decide)))
end
end G
end
section
set_option Elab.async false
set_option linter.all false
set_option maxRecDepth 100000
set_option maxHeartbeats 4000000
set_option exponentiation.threshold 3000
/-! walks of the law: a game, the law -/
namespace G
open PySem PySem.Spec PyProof.Rows L2
local macro_rules | `(tactic| walk_at "ev") => `(tactic| repeat' (first
  | ((with_reducible refine' ev_var ?_); rfl) | ((with_reducible refine' EvD.l (ev_var ?_)); rfl) | ((with_reducible refine' el_bor ?_); rfl) | ((with_reducible refine' EvC.l (ec_var ?_)); rfl) | ((with_reducible refine' evv_var ?_); rfl) | with_reducible exact ev_int | with_reducible exact ev_str | with_reducible exact ev_bl | with_reducible exact ev_non
  | ((with_reducible refine' Tx.evN ?_); assumption) | ((with_reducible refine' Tx.evO ?_); assumption)
  | with_reducible exact ea_nil | with_reducible refine' ea_dat ?_ ?_ | with_reducible refine' ea_bor ?_ ?_ | with_reducible refine' ea_val ?_ ?_
  | with_reducible refine' ev_add ?_ ?_ | with_reducible refine' ev_sub ?_ ?_ | with_reducible refine' ev_mulW ?_ ?_ ?_ | with_reducible refine' ev_neg ?_ | with_reducible refine' ev_cmp ?_ ?_
  | with_reducible refine' ev_q0 ?_ | with_reducible refine' ev_q1 ?_
  | with_reducible refine' ev_k_draw ?_ | with_reducible refine' ev_k_ours ?_ | with_reducible refine' ev_k_theirs ?_ | with_reducible refine' ev_k_reward ?_ | with_reducible refine' ev_k_fin ?_ | with_reducible refine' ev_k_lose ?_
  | with_reducible refine' ev_n_draw ?_ | with_reducible refine' ev_n_ours ?_ | with_reducible refine' ev_n_theirs ?_ | with_reducible refine' ev_n_reward ?_ | with_reducible refine' ev_n_fin ?_ | with_reducible refine' ev_n_lose ?_
  | with_reducible refine' ev_side ?_ ?_ | with_reducible refine' ev_kind ?_
  | with_reducible refine' eb_test ?_ | with_reducible refine' eb_B ?_ | with_reducible refine' ev_int1 ?_ | with_reducible refine' eb_not ?_ | with_reducible refine' eb_or ?_ (fun _ => ?_) | with_reducible refine' eb_and ?_ (fun _ => ?_) | with_reducible refine' ev_t0 ?_ | with_reducible refine' ev_t1 ?_ | with_reducible refine' ev_t2 ?_))
local macro_rules | `(tactic| walk_at "ifT") => `(tactic| (refine' hs_seq (hs_ifT (b := _) ?h ?n ?e); (case h => walk_at "ev"); (case e => rfl)))
local macro_rules | `(tactic| walk_at "ifF") => `(tactic| (refine' hs_seq (hs_ifF (b := _) ?h (hs_next ?n) ?e); (case h => walk_at "ev"); (case e => rfl)))
theorem od_ixT0 {K : PySem.W.Frag} {d : PyData} {ds : List PyData} : OpD K (rIxT K) (.tuple (d :: ds)) (.int 0) d := fun I H v u e hv hu Q q => by
  cases dp_int hu
  obtain ⟨a, xs, rfl, h1, h2⟩ := dp_tup hv
  cases h2 with
  | cons h3 h4 => exact ⟨a, _, 0, _, rfl, rfl, e.t h1, by unfold atI ixN; rw [if_pos (by decide), if_pos (by rw [List.length_cons]; omega)]; rfl, q _ I H (.refl e) h3⟩
theorem cut_m2 (ds : List PyData) : cutD ds none (some (-2)) = ds.take (ds.length - 2) := by
  unfold cutD
  rw [HT.sIx_none, List.drop_zero]
  have e : HT.sIx ds.length ds.length (some (-2)) = ds.length - 2 := by
    unfold HT.sIx
    simp only
    rw [if_pos (by decide)]
    omega
  rw [e, Nat.sub_zero]
theorem gok_of {ps : List Pl} {k : Nat} (h1 : 1 ≤ k) (h12 : k ≤ 12) (hl : ps.length = k) (h : ∀ p ∈ ps, POk k p) : GOk ps := by
  refine ⟨by omega, by omega, fun i hi => ?_⟩
  rw [hl]
  refine h _ ?_
  unfold pat
  rw [List.getD_eq_getElem?_getD, List.getElem?_eq_getElem hi]
  exact List.getElem_mem hi
theorem gok_cut {ps : List Pl} {k : Nat} (h1 : 1 ≤ k) (h12 : k ≤ 12) (hl : ps.length = k) (h : ∀ p ∈ ps, POk k p) : GOk (ps.take (ps.length - 2) ++ [.fin, .lose]) := by
  have hn : (ps.take (ps.length - 2) ++ [Pl.fin, Pl.lose]).length = ps.length - 2 + 2 := by
    rw [List.length_append, List.length_take]
    show min _ _ + 2 = _
    omega
  refine ⟨by omega, by omega, fun i hi => ?_⟩
  have hm : pat (ps.take (ps.length - 2) ++ [Pl.fin, Pl.lose]) i ∈ ps.take (ps.length - 2) ++ [Pl.fin, Pl.lose] := by
    unfold pat
    rw [List.getD_eq_getElem?_getD, List.getElem?_eq_getElem hi]
    exact List.getElem_mem hi
  rcases List.mem_append.mp hm with h2 | h2
  · exact pok_mono (by omega) (h _ (List.mem_of_mem_take h2))
  · simp only [List.mem_cons, List.not_mem_nil, or_false] at h2
    rcases h2 with h2 | h2
    · rw [h2]; trivial
    · rw [h2]; trivial
section
variable {Pg : Program} {w : World} {K : PySem.W.Frag} {mg : Str → Option Value} {base : Heap} {aN aO : Addr}
/-! _law_game: level 3; slots 0 _law_pool_here, 1 _law_most, 2 _law_many, 3 _law_kinds, 4 _law_game_here, 5 _law_k; calls ['_law_pick 1', '_law_place 2'] -/
abbrev s__law_game : Stmt := topS 49
theorem sc__law_game : FnScope ["_law_pool_here", "_law_most", "_law_many", "_law_kinds", "_law_game_here", "_law_k"] ["_law_pool_here", "_law_most"] (defScope s__law_game) := ⟨rfl, rfl, rfl, by decide +kernel, rfl, by decide +kernel, by decide +kernel⟩
def S_lgame : List Ar → (PyData → Prop) → Prop := fun as R => ∃ (n : Nat), as = [.pool n, .dat (eN 7)] ∧ 2 ≤ n ∧ n ≤ 100000 ∧ ∀ g : Game, GOk g → R (eG g)
theorem ok__law_game {f : Addr} {fd : FuncData} (T : Tx K mg aN aO) (F : Fun K "_law_game" "_law_game" s__law_game f fd) (c__law_pick : Cal Pg w K mg base 1 "_law_pick" (spD K S_pick)) (c__law_place : Cal Pg w K mg base 2 "_law_place" (spD K S_lplace)) : FnOk Pg w K mg base CX0 3 f fd ["_law_pool_here", "_law_most"] (spD K S_lgame) := by
  refine fok F sc__law_game (fun as R h => ?len) fun cdv A outer s H E hr => ?_
  case len => obtain ⟨_, rfl, _⟩ := h; rfl
  have nd := sc__law_game.nd
  refine ⟨_, (pss_cons (ps_set (i := 2) nd rfl (Or.inr rfl) (pe_op op_add pe_int (pe_c c__law_pick hr (by decide) (by rfl) (pa_cons (pv 0) (pa_cons (pv 1) pa_nil)))))
        (pss_cons (ps_if (pt_cmpR op_eq (pe_c c__law_pick hr (by decide) (by rfl) (pa_cons (pv 0) (pa_cons pe_int pa_nil))) pe_int (nomark _)) (pss_one (ps_set (i := 2) nd rfl (Or.inr rfl) (pe_op op_add (pv 1) pe_int))) pss_nil)
        (pss_cons (ps_set (i := 3) nd rfl (Or.inr rfl) (pe_lst (pa_cons pe_str (pa_cons pe_str (pa_cons pe_str (pa_cons pe_str (pa_cons pe_str (pa_cons pe_str (pa_cons pe_str (pa_cons pe_str (pa_cons pe_str (pa_cons pe_str pa_nil))))))))))))
        (pss_cons (ps_setLc (i := 4) (own := [("_law_k", 5)]) (g := (gName 5)) (by rfl) nd rfl rfl (sw_true rfl rfl rfl (by decide +kernel)) (pi_range1 (by rfl) T.range (pa_cons (pv 2) pa_nil)) (blkOk_by (N := ["_law_pool_here", "_law_most", "_law_many", "_law_kinds", "_law_game_here", "_law_k"]) (sc := defScope s__law_game) (by decide +kernel)) (fun _ _ _ _ _ => (pg_name (i := 5) nd rfl (Or.inl rfl))) (fun _ _ _ _ _ => pts_nil) (fun _ _ _ _ _ => (pe_c c__law_place hr (by decide) (by rfl) (pa_cons (pv 0) (pa_cons (pv 2) (pa_cons (pv 3) pa_nil))))))
        (pss_cons (ps_if (PW.pt (pw_and (pt_cmpR op_gt (pv 2) pe_int (nomark _)) (pw_and1 (pt_cmpR op_gt (pe_c c__law_pick hr (by decide) (by rfl) (pa_cons (pv 0) (pa_cons pe_int pa_nil))) pe_int (nomark _))))) (pss_one (ps_set (i := 4) nd rfl (Or.inl rfl) (pe_op op_cat (kx_slice (K := K) rfl (pv 4) po_none (po_some (pe_un un_neg pe_int))) (pe_lst (pa_cons (pe_tup (pa_cons pe_str pa_nil)) (pa_cons (pe_tup (pa_cons pe_str pa_nil)) pa_nil)))))) pss_nil)
        (pss_one (ps_ret (pv 4)))))))), fun as R hS => ?_⟩
  obtain ⟨n, rfl, h2, hn, hR⟩ := hS
  refine hs_seq (hs_asgR (R := fun d => ∃ k : Nat, d = eN k ∧ 1 ≤ k ∧ k ≤ 7) (evr_op (ev_int.toR (R := (· = .int 1)) rfl) (evr_pick (many := 7) rfl (ev_var rfl) h2 hn (by decide)) fun x y hx hy => ?_) fun d hd => ?_)
  · obtain ⟨r, rfl, hr⟩ := hy
    subst hx
    refine ⟨eN (1 + r), ⟨1 + r, rfl, by omega, by omega⟩, od_I0 fun I => ?_⟩
    show Dp K I (.int (1 + (r : Int))) (.int ((1 + r : Nat) : Int))
    rw [show ((1 + r : Nat) : Int) = 1 + (r : Int) by omega]
    exact .int _
  obtain ⟨k0, rfl, hk1, hk7⟩ := hd
  refine hs_seq_of (fun ρ => ∃ k : Nat, 1 ≤ k ∧ k ≤ 12 ∧ ρ = [.pool n, .dat (eN 7), .dat (eN k), .any, .any, .any]) (hs_ifA (eba_test (evr_op (evr_pick (many := 30) rfl ev_int h2 hn (by decide)) (ev_int.toR (R := (· = .int 0)) rfl) fun x y hx hy => ?_)) (hs_asg (d := eN 12) (ev_add (i := 7) (j := 5) (ev_var rfl) ev_int) ⟨12, by decide, by decide, rfl⟩) (hs_next ⟨k0, hk1, by omega, rfl⟩)) fun ρ hρ => ?_
  · obtain ⟨r, rfl, hr⟩ := hx
    subst hy
    exact ⟨_, ⟨_, rfl⟩, od_eqInt⟩
  obtain ⟨k, hk1, hk12, rfl⟩ := hρ
  refine hs_seq (hs_asg (d := kindsD) (EvN.f (en_lst (ds := kinds.map .str) (ea_dat ev_str (ea_dat ev_str (ea_dat ev_str (ea_dat ev_str (ea_dat ev_str (ea_dat ev_str (ea_dat ev_str (ea_dat ev_str (ea_dat ev_str (ea_dat ev_str ea_nil)))))))))) (by show 10 ≤ 100000; decide))) ?_)
  refine hs_seq (hs_asgNR (enr_draws (enc := eN) (R := fun d => ∃ p : Pl, d = ePl p ∧ POk k p) k (ei_rangeN (ev_var rfl) (by omega)) (by omega) fun i hi => ⟨_, .name 5 (eN i), evr_call (as := [.pool n, .dat (eN k), .dat kindsD]) (ea_pool rfl (ea_dat (ev_var rfl) (ea_dat (ev_var rfl) ea_nil))) fun R' hR' => ⟨n, k, rfl, h2, hn, by omega, hk12, fun p hp => hR' _ ⟨p, rfl, hp⟩⟩⟩) fun ds hds => ?_)
  obtain ⟨ps, rfl, hps⟩ := pls_of hds.2
  have hpl : ps.length = k := by have := hds.1; rw [List.length_map] at this; exact this
  refine hs_freeze (i := 4) rfl ?_
  refine hs_seq_of (fun ρ => ∃ g : Game, GOk g ∧ ρ = [.pool n, .dat (eN 7), .dat (eN k), .dat kindsD, .dat (eG g), .any]) (hs_ifA (eba_and (eb_test (ev_cmp (ev_var rfl) ev_int)).a (eba_test (evr_op (evr_pick (many := 5) rfl ev_int h2 hn (by decide)) (ev_int.toR (R := (· = .int 0)) rfl) fun x y hx hy => ?_))) (hs_asg (d := eG (ps.take (ps.length - 2) ++ [.fin, .lose])) ((EvN.f (en_cat (EvN.c (en_slice (ds := ps.map ePl) (EvD.l (ev_var rfl)) eo_none (eo_some (ev_neg ev_int)))) (EvN.c (en_lst (ds := [.tuple [.str (Str.ofString "finish")], .tuple [.str (Str.ofString "lose")]]) (ea_dat (ev_tup (ds := [_]) (ea_dat ev_str ea_nil) (by show 1 ≤ 100000; decide)) (ea_dat (ev_tup (ds := [_]) (ea_dat ev_str ea_nil) (by show 1 ≤ 100000; decide)) ea_nil)) (by show 2 ≤ 100000; decide))) ?_)).is ?_) ⟨_, gok_cut hk1 hk12 hpl hps, rfl⟩) (hs_next ⟨ps, gok_of hk1 hk12 hpl hps, rfl⟩)) fun ρ hρ => ?_
  · obtain ⟨r, rfl, hr⟩ := hx
    subst hy
    exact ⟨_, ⟨_, rfl⟩, od_I0 fun I => .bl _⟩
  · rw [cut_m2, List.length_take, List.length_map]
    show min _ _ + 2 ≤ 100000
    omega
  · rw [cut_m2, List.length_map]
    unfold eG
    rw [List.map_append, List.map_take]
    rfl
  obtain ⟨g, hg, rfl⟩ := hρ
  exact hs_ret (ev_var rfl) (hR g hg)
theorem asg_start {te : TE} {t : TS} {D : Ends} {σ : L2.St} {H : Hp} {i : Nat} : tSeq (tAsg te (gName i)) t D σ H ↔ te σ H (fun x H1 => t D (σ.set i (some x)) H1) := Iff.rfl
/-! law: level 11; slots 0 _law_script, 1 _law_pool_here, 2 _law_game_here, 3 _law_ours, 4 _law_theirs, 5 _law_here, 6 _law_least, 7 _law_greatest, 8 _law_k; calls ['_law_stream 2', '_law_game 3', '_law_strategy 2', '_law_solved 4', '_law_are_chances 4', 'least_against 10', 'greatest_against 10', '_law_are_numbers 3', '_law_less 1'] -/
abbrev s_law : Stmt := topS 66
theorem sc_law : FnScope ["_law_script", "_law_pool_here", "_law_game_here", "_law_ours", "_law_theirs", "_law_here", "_law_least", "_law_greatest", "_law_k"] ["_law_script"] (defScope s_law) := ⟨rfl, rfl, rfl, by decide +kernel, rfl, by decide +kernel, by decide +kernel⟩
def spLaw (K : PySem.W.Frag) : Sp := fun vs H Q _ => ∃ (a : Addr) (ns : List Int), vs = [.ref a] ∧ SqL K H a (ns.map V.int) ∧ ns.length ≤ 100000 ∧ ∀ H', Q (.bl true) H'
theorem ok_law {f : Addr} {fd : FuncData} (T : Tx K mg aN aO) (F : Fun K "law" "law" s_law f fd) (c__law_stream : Cal Pg w K mg base 2 "_law_stream" (spStream K)) (c__law_game : Cal Pg w K mg base 3 "_law_game" (spD K S_lgame)) (c__law_strategy : Cal Pg w K mg base 2 "_law_strategy" (spD K S_lstrategy))
    (c__law_solved : Cal Pg w K mg base 4 "_law_solved" (spD K S_solved)) (c__law_are_chances : Cal Pg w K mg base 4 "_law_are_chances" (spD K S_are_chances)) (c_least_against : Cal Pg w K mg base 10 "least_against" (spD K S_least)) (c_greatest_against : Cal Pg w K mg base 10 "greatest_against" (spD K S_greatest)) (c__law_are_numbers : Cal Pg w K mg base 3 "_law_are_numbers" (spD K S_are_numbers)) (c__law_less : Cal Pg w K mg base 1 "_law_less" (spD K S_less)) :
    FnOk Pg w K mg base CX0 11 f fd ["_law_script"] (spLaw K) := by
  refine F.ok sc_law (fun vs H Q E h => ?_) (fun cdv A outer s H vs Q E hr h => ?_)
  · obtain ⟨_, _, rfl, _⟩ := h; rfl
  obtain ⟨a, ns, rfl, hH, hns, q⟩ := h
  have nd := sc_law.nd
  refine ⟨_, (pss_cons (ps_set (i := 1) nd rfl (Or.inl rfl) (pe_c c__law_stream hr (by decide) (by rfl) (pa_cons (pv 0) pa_nil)))
        (pss_cons (ps_set (i := 2) nd rfl (Or.inl rfl) (pe_c c__law_game hr (by decide) (by rfl) (pa_cons (pv 1) (pa_cons pe_int pa_nil))))
        (pss_cons (ps_set (i := 3) nd rfl (Or.inl rfl) (pe_c c__law_strategy hr (by decide) (by rfl) (pa_cons (pv 1) (pa_cons (pv 2) (pa_cons pe_str pa_nil)))))
        (pss_cons (ps_set (i := 4) nd rfl (Or.inl rfl) (pe_c c__law_strategy hr (by decide) (by rfl) (pa_cons (pv 1) (pa_cons (pv 2) (pa_cons pe_str pa_nil)))))
        (pss_cons (ps_set (i := 5) nd rfl (Or.inl rfl) (pe_c c__law_solved hr (by decide) (by rfl) (pa_cons (pv 2) (pa_cons (pv 3) (pa_cons (pv 4) pa_nil)))))
        (pss_cons (ps_if (pt_not (pt_val (pe_c c__law_are_chances hr (by decide) (by rfl) (pa_cons (pv 2) (pa_cons (pv 5) (pa_cons (pv 3) (pa_cons (pv 4) pa_nil))))))) (pss_one (ps_ret pe_bl)) pss_nil)
        (pss_cons (ps_set (i := 6) nd rfl (Or.inl rfl) (kx_ixT (K := K) rfl (pe_c c_least_against hr (by decide) (by rfl) (pa_cons (pv 2) (pa_cons (pv 3) pa_nil))) pe_int (fun _ _ => rfl)))
        (pss_cons (ps_set (i := 7) nd rfl (Or.inl rfl) (kx_ixT (K := K) rfl (pe_c c_greatest_against hr (by decide) (by rfl) (pa_cons (pv 2) (pa_cons (pv 4) pa_nil))) pe_int (fun _ _ => rfl)))
        (pss_cons (ps_if (PW.pt (pw_or (pt_not (pt_val (pe_c c__law_are_numbers hr (by decide) (by rfl) (pa_cons (pv 2) (pa_cons (pv 6) pa_nil))))) (pw_or1 (pt_not (pt_val (pe_c c__law_are_numbers hr (by decide) (by rfl) (pa_cons (pv 2) (pa_cons (pv 7) pa_nil)))))))) (pss_one (ps_ret pe_bl)) pss_nil)
        (pss_cons (ps_for PassesOwn.never rfl (pi_range1 (by rfl) T.range (pa_cons (kx_len (K := K) rfl (by rfl) T.len (pa_cons (pv 2) pa_nil)) pa_nil)) (pg_name (i := 8) nd rfl (Or.inl rfl)) (pss_one (ps_if (PW.pt (pw_or (pt_val (pe_c c__law_less hr (by decide) (by rfl) (pa_cons (kx_ixL (K := K) rfl (pv 5) (pv 8) (fun _ _ => rfl)) (pa_cons (kx_ixL (K := K) rfl (pv 6) (pv 8) (fun _ _ => rfl)) pa_nil)))) (pw_or1 (pt_val (pe_c c__law_less hr (by decide) (by rfl) (pa_cons (kx_ixL (K := K) rfl (pv 7) (pv 8) (fun _ _ => rfl)) (pa_cons (kx_ixL (K := K) rfl (pv 5) (pv 8) (fun _ _ => rfl)) pa_nil))))))) (pss_one (ps_ret pe_bl)) pss_nil)))
        (pss_one (ps_ret pe_bl)))))))))))), ?_⟩
  refine asg_start.mpr ⟨.ref a, rfl, a, ns, rfl, hH, hns, fun r n H' hn1 hn2 hr' => ?_⟩
  have rest : ∀ (t : TS) (D : Ends), HS K w t [.any, .pool n, .any, .any, .any, .any, .any, .any, .any] { nx := fun _ => False, rt := fun d => d = .bool true } → D.rt = Q → t D [some (.ref a), some (.ref r), none, none, none, none, none, none, none] H' := fun t D ht hD => by
    refine ht (fun _ => none) H' D (fun _ => none) H' _ ⟨.refl _, (fun b o z => nomatch z), rfl, fun i sl x h1 h2 => ?_, fun i j b sl tl h1 h2 m1 => ?_⟩ (.refl (fun b o z => nomatch z)) ⟨fun _ _ _ _ z => z.elim, fun d v I' H'' hd _ hv => ?_, fun _ _ _ _ _ z => z.elim, fun _ _ _ _ z => z.elim, fun _ _ _ _ z => z.elim⟩
    · match i, h1, h2 with
      | 0, h1, h2 => cases h1; trivial
      | 1, h1, h2 => cases h1; cases h2; exact ⟨r, rfl, hr'⟩
      | 2, h1, h2 => cases h1; trivial
      | 3, h1, h2 => cases h1; trivial
      | 4, h1, h2 => cases h1; trivial
      | 5, h1, h2 => cases h1; trivial
      | 6, h1, h2 => cases h1; trivial
      | 7, h1, h2 => cases h1; trivial
      | 8, h1, h2 => cases h1; trivial
      | (i + 9), h1, h2 => cases h1
    · match i, h1 with
      | 0, h1 => cases h1; cases m1
      | 1, h1 => cases h1; cases m1
      | 2, h1 => cases h1; cases m1
      | 3, h1 => cases h1; cases m1
      | 4, h1 => cases h1; cases m1
      | 5, h1 => cases h1; cases m1
      | 6, h1 => cases h1; cases m1
      | 7, h1 => cases h1; cases m1
      | 8, h1 => cases h1; cases m1
      | (i + 9), h1 => cases h1
    · subst hd
      cases dp_bl hv
      rw [hD]
      exact q H''
  show tSeq _ _ _ _ H'
  refine rest _ _ ?_ ?_
  rotate_left
  · exact rfl
  refine hs_seq (hs_asgR (R := fun d => ∃ g : Game, d = eG g ∧ GOk g) (evr_call (as := [.pool n, .dat (eN 7)]) (ea_pool rfl (ea_dat (ev_int (i := 7)) ea_nil)) fun R' hR' => ⟨n, rfl, by omega, by omega, fun g hg => hR' _ ⟨g, rfl, hg⟩⟩) fun d hd => ?_)
  obtain ⟨g, rfl, hg⟩ := hd
  refine hs_seq (hs_asgR (R := fun d => ∃ so : Strat, d = eSt so ∧ StOk .us g so) (evr_call (as := [.pool n, .dat (eG g), .dat (.str (Str.ofString "ours"))]) (ea_pool rfl (ea_dat (ev_var rfl) (ea_dat ev_str ea_nil))) fun R' hR' => ⟨n, g, .us, rfl, by omega, by omega, hg, fun so h => hR' _ ⟨so, rfl, h⟩⟩) fun d hd => ?_)
  obtain ⟨so, rfl, hso⟩ := hd
  refine hs_seq (hs_asgR (R := fun d => ∃ st : Strat, d = eSt st ∧ StOk .them g st) (evr_call (as := [.pool n, .dat (eG g), .dat (.str (Str.ofString "theirs"))]) (ea_pool rfl (ea_dat (ev_var rfl) (ea_dat ev_str ea_nil))) fun R' hR' => ⟨n, g, .them, rfl, by omega, by omega, hg, fun so h => hR' _ ⟨so, rfl, h⟩⟩) fun d hd => ?_)
  obtain ⟨st, rfl, hst⟩ := hd
  have hgs : Gs g so st := ⟨hg, hso, hst⟩
  have hgl := hg.len
  refine hs_seq (hs_asgR (R := fun d => ∃ v : Nat → Rat, d = eFq g.length v ∧ IsVal (ch2 g so st) v) (evr_call (as := [.dat (eG g), .dat (eSt so), .dat (eSt st)]) (by walk_at "ev") fun R' hR' => ⟨g, so, st, rfl, hgs, fun v hv => hR' _ ⟨v, rfl, hv⟩⟩) fun d hd => ?_)
  obtain ⟨v, rfl, hv⟩ := hd
  have hnv := nm_val hgs hv
  refine hs_seq (hs_if (eb_not (eb_B (ev_call (as := [.dat (eG g), .dat (eFq g.length v), .dat (eSt so), .dat (eSt st)]) (by walk_at "ev") fun R' hR' => ⟨g, v, so, st, rfl, hgs, hv, hR'⟩))) (fun h => by simp at h) (fun _ => hs_next ?_))
  refine hs_seq (hs_asgR (R := fun d => ∃ (x : Nat → Rat) (st' : Strat), d = eFq g.length x ∧ LeastOk g so x st') (evr_op (A := fun d => ∃ (x : Nat → Rat) (st' : Strat), d = .tuple [eFq g.length x, eSt st'] ∧ LeastOk g so x st') (evr_call (as := [.dat (eG g), .dat (eSt so)]) (by walk_at "ev") fun R' hR' => ⟨g, so, rfl, hg, hso, fun x st' h => hR' _ ⟨x, st', rfl, h⟩⟩) (ev_int.toR (R := (· = .int 0)) rfl) fun x y hx hy => ?_) fun d hd => ?_)
  · obtain ⟨x, st', rfl, hx⟩ := hx
    subst hy
    exact ⟨_, ⟨x, st', rfl, hx⟩, od_ixT0⟩
  obtain ⟨lo, st', rfl, hlo⟩ := hd
  refine hs_seq (hs_asgR (R := fun d => ∃ (x : Nat → Rat) (so' : Strat), d = eFq g.length x ∧ GreatOk g st x so') (evr_op (A := fun d => ∃ (x : Nat → Rat) (so' : Strat), d = .tuple [eFq g.length x, eSt so'] ∧ GreatOk g st x so') (evr_call (as := [.dat (eG g), .dat (eSt st)]) (by walk_at "ev") fun R' hR' => ⟨g, st, rfl, hg, hst, fun x so' h => hR' _ ⟨x, so', rfl, h⟩⟩) (ev_int.toR (R := (· = .int 0)) rfl) fun x y hx hy => ?_) fun d hd => ?_)
  · obtain ⟨x, st', rfl, hx⟩ := hx
    subst hy
    exact ⟨_, ⟨x, st', rfl, hx⟩, od_ixT0⟩
  obtain ⟨hi, so', rfl, hhi⟩ := hd
  have hnl := nm_val (so := so) (st := st') ⟨hg, hso, hlo.1⟩ hlo.2.1
  have hnh := nm_val (so := so') (st := st) ⟨hg, hhi.1, hst⟩ hhi.2.1
  refine hs_seq (hs_if (eb_or (eb_not (eb_B (ev_call (as := [.dat (eG g), .dat (eFq g.length lo)]) (by walk_at "ev") fun R' hR' => ⟨g, lo, rfl, hgl, hnl, hR'⟩))) fun _ => eb_not (eb_B (ev_call (as := [.dat (eG g), .dat (eFq g.length hi)]) (by walk_at "ev") fun R' hR' => ⟨g, hi, rfl, hgl, hnh, hR'⟩))) (fun h => by simp at h) (fun _ => hs_next ?_))
  refine hs_seq (hs_forN g.length (fun t ρ => ∃ x8, ρ = [.any, .pool n, .dat (eG g), .dat (eSt so), .dat (eSt st), .dat (eFq g.length v), .dat (eFq g.length lo), .dat (eFq g.length hi), x8]) (ei_rangeN (ev_leng (ev_var rfl)) (by omega)) ⟨_, rfl⟩ (fun t ρ ht hρ => ?_) (fun ρ hρ => ?_))
  · obtain ⟨x8, rfl⟩ := hρ
    refine hg_name ?_
    refine hs_if (eb_or (eb_B (ev_less (ev_ixF (n := g.length) (f := fun k => num (v k)) (EvD.l (ev_var rfl)) (ev_var rfl) ht) (ev_ixF (n := g.length) (f := fun k => num (lo k)) (EvD.l (ev_var rfl)) (ev_var rfl) ht) (hnv.sm t ht) (hnl.sm t ht))) fun _ => eb_B (ev_less (ev_ixF (n := g.length) (f := fun k => num (hi k)) (EvD.l (ev_var rfl)) (ev_var rfl) ht) (ev_ixF (n := g.length) (f := fun k => num (v k)) (EvD.l (ev_var rfl)) (ev_var rfl) ht) (hnh.sm t ht) (hnv.sm t ht))) (fun h => ?_) (fun _ => hs_next ⟨_, rfl⟩)
    rw [Bool.or_eq_true, decide_eq_true_eq, decide_eq_true_eq] at h
    have h1 := hlo.2.2 st v hst hv t ht
    have h2 := hhi.2.2 so v hso hv t ht
    exact absurd h (by grind)
  · obtain ⟨x8, rfl⟩ := hρ
    exact hs_ret ev_bl rfl
end
end G
end
section
set_option Elab.async false
set_option linter.all false
set_option maxRecDepth 100000
set_option maxHeartbeats 4000000
/-! the defs, joined -/
namespace G
open PySem PySem.Spec PyProof.Rows L2
/-- what the top has left of a def -/
def Tp (K : PySem.W.Frag) (x : Str) (st : Stmt) (f : Addr) : Prop := PySem.W.nsIn K mainGlobals x = some (some (.ref f)) ∧ (∃ (oc : Value) (od : Option Addr) (kV doc pm : Value) (an : Option Addr) (cdv ct : Value) (osl : Array (Option Value)), K.lookup f = some ⟨oc, od, .func (PySem.W.fnOf x x (defArgs st) (defBody st) (defScope st) .none kV doc pm an cdv ct), osl⟩ ∧ PySem.W.codeIn K cdv x = true) ∧ PySem.W.keepIn K (.ref f) = true
theorem tp_mk {K : PySem.W.Frag} {x : Str} {st : Stmt} {f : Addr} {oc : Value} {od : Option Addr} {kV doc pm : Value} {an : Option Addr} {cdv ct : Value} {osl : Array (Option Value)} (a : PySem.W.nsIn K mainGlobals x = some (some (.ref f))) (l : K.lookup f = some ⟨oc, od, .func (PySem.W.fnOf x x (defArgs st) (defBody st) (defScope st) .none kV doc pm an cdv ct), osl⟩) (c : PySem.W.codeIn K cdv x = true) (k : PySem.W.keepIn K (.ref f) = true) : Tp K x st f := ⟨a, ⟨oc, od, kV, doc, pm, an, cdv, ct, osl, l, c⟩, k⟩
theorem Tp.fn {K : PySem.W.Frag} {x : Str} {st : Stmt} {f : Addr} (h : Tp K x st f) : ∃ fd, Fun K x x st f fd := by
  obtain ⟨_, ⟨oc, od, kV, doc, pm, an, cdv, ct, osl, l, c⟩, k⟩ := h
  exact ⟨_, fun_mk l c k⟩
theorem cal_of {Pg : Program} {w : World} {K : PySem.W.Frag} {h : Heap} {mg : Str → Option Value} {base : Heap} {x : Str} {st : Stmt} {f : Addr} {fd : FuncData} {k : Nat} {ps : List Str} {sp : Sp} (X : K.In h) (G : h.Ns mainGlobals mg) (t : Tp K x st f) (F : Fun K x x st f fd) (ok : FnOk Pg w K mg base CX0 k f fd ps sp)
    (hb : ∀ (kV doc pm : Value) (an : Option Addr) (cdv ct : Value) (us : List Value), us.length = ps.length → bindArgs (PySem.W.fnOf x x (defArgs st) (defBody st) (defScope st) Value.none kV doc pm an cdv ct) { pos := us } = pure (ps.zip us)) : Cal Pg w K mg base k x sp := ⟨⟨f, fd, ps, ok, PySem.W.mg_of X G t.1, t.2.2, F.binds hb⟩⟩
/-- a pair of ints that the top has made -/
theorem dp_pair {K : PySem.W.Frag} {a : Addr} {i j : Int} {od : Option Addr} {t u : Tok} {n : Nat} {sl : Array (Option Value)} (l : K.lookup a = some ⟨.type "tuple", od, .seq #[.int i t, .int j u] n, sl⟩) (I : Hp) : Dp K I (.ref a) (.tuple [.int i, .int j]) :=
  .tup (xs := [.int i, .int j]) (Or.inr ⟨_, _, _, l, rfl, rfl, sz_of (by show 2 ≤ 100000; decide), .cons ⟨t, rfl⟩ (.cons ⟨u, rfl⟩ .nil)⟩) (.cons (.int i) (.cons (.int j) .nil))
theorem all_mk {l : PySem.W.OpenLaw} {w : World} {K : PySem.W.Frag} {h : Heap} {mg : Str → Option Value} {fa : Addr} (X : K.In h) (G : h.Ns mainGlobals mg) (hfa : mg "law" = some (.ref fa)) {f_number : Addr} (t_number : Tp K "number" s_number f_number) {f_compare : Addr} (t_compare : Tp K "compare" s_compare f_compare) {f_plus : Addr} (t_plus : Tp K "plus" s_plus f_plus) {f_minus : Addr} (t_minus : Tp K "minus" s_minus f_minus) {f_times : Addr} (t_times : Tp K "times" s_times f_times) {f_divided : Addr} (t_divided : Tp K "divided" s_divided f_divided) {f_targets : Addr} (t_targets : Tp K "targets" s_targets f_targets) {f_places_of : Addr} (t_places_of : Tp K "places_of" s_places_of f_places_of) {f_copy_of : Addr} (t_copy_of : Tp K "copy_of" s_copy_of f_copy_of) {f_with_strategy : Addr} (t_with_strategy : Tp K "with_strategy" s_with_strategy f_with_strategy) {f_reached : Addr} (t_reached : Tp K "reached" s_reached f_reached) {f_scaled : Addr} (t_scaled : Tp K "scaled" s_scaled f_scaled) {f_without : Addr} (t_without : Tp K "without" s_without f_without) {f_reduced : Addr} (t_reduced : Tp K "reduced" s_reduced f_reduced) {f_solution_of : Addr} (t_solution_of : Tp K "solution_of" s_solution_of f_solution_of) {f_only_solution : Addr} (t_only_solution : Tp K "only_solution" s_only_solution f_only_solution) {f_branches : Addr} (t_branches : Tp K "branches" s_branches f_branches) {f_all_reached : Addr} (t_all_reached : Tp K "all_reached" s_all_reached f_all_reached) {f_means : Addr} (t_means : Tp K "means" s_means f_means) {f_chances : Addr} (t_chances : Tp K "chances" s_chances f_chances) {f_ranked : Addr} (t_ranked : Tp K "ranked" s_ranked f_ranked) {f_sure_rule : Addr} (t_sure_rule : Tp K "sure_rule" s_sure_rule f_sure_rule) {f_chance_rule : Addr} (t_chance_rule : Tp K "chance_rule" s_chance_rule f_chance_rule) {f_ranks_in : Addr} (t_ranks_in : Tp K "ranks_in" s_ranks_in f_ranks_in) {f_every_place : Addr} (t_every_place : Tp K "every_place" s_every_place f_every_place) {f_chance_ranks : Addr} (t_chance_ranks : Tp K "chance_ranks" s_chance_ranks f_chance_ranks) {f_no_chance : Addr} (t_no_chance : Tp K "no_chance" s_no_chance f_no_chance) {f_keeping_away : Addr} (t_keeping_away : Tp K "keeping_away" s_keeping_away f_keeping_away) {f_first_choices : Addr} (t_first_choices : Tp K "first_choices" s_first_choices f_first_choices) {f_better : Addr} (t_better : Tp K "better" s_better f_better) {f_improved : Addr} (t_improved : Tp K "improved" s_improved f_improved) {f_finishing : Addr} (t_finishing : Tp K "finishing" s_finishing f_finishing) {f_least_against : Addr} (t_least_against : Tp K "least_against" s_least_against f_least_against) {f_greatest_against : Addr} (t_greatest_against : Tp K "greatest_against" s_greatest_against f_greatest_against) {f__law_pool : Addr} (t__law_pool : Tp K "_law_pool" s__law_pool f__law_pool) {f__law_stream : Addr} (t__law_stream : Tp K "_law_stream" s__law_stream f__law_stream) {f__law_pick : Addr} (t__law_pick : Tp K "_law_pick" s__law_pick f__law_pick) {f__law_lowest : Addr} (t__law_lowest : Tp K "_law_lowest" s__law_lowest f__law_lowest) {f__law_place : Addr} (t__law_place : Tp K "_law_place" s__law_place f__law_place) {f__law_game : Addr} (t__law_game : Tp K "_law_game" s__law_game f__law_game) {f__law_strategy : Addr} (t__law_strategy : Tp K "_law_strategy" s__law_strategy f__law_strategy) {f__law_targets : Addr} (t__law_targets : Tp K "_law_targets" s__law_targets f__law_targets) {f__law_goals : Addr} (t__law_goals : Tp K "_law_goals" s__law_goals f__law_goals) {f__law_reaching : Addr} (t__law_reaching : Tp K "_law_reaching" s__law_reaching f__law_reaching) {f__law_add : Addr} (t__law_add : Tp K "_law_add" s__law_add f__law_add) {f__law_sub : Addr} (t__law_sub : Tp K "_law_sub" s__law_sub f__law_sub) {f__law_mul : Addr} (t__law_mul : Tp K "_law_mul" s__law_mul f__law_mul) {f__law_div : Addr} (t__law_div : Tp K "_law_div" s__law_div f__law_div) {f__law_row : Addr} (t__law_row : Tp K "_law_row" s__law_row f__law_row) {f__law_solved : Addr} (t__law_solved : Tp K "_law_solved" s__law_solved f__law_solved) {f__law_is_number : Addr} (t__law_is_number : Tp K "_law_is_number" s__law_is_number f__law_is_number) {f__law_is_numbers : Addr} (t__law_is_numbers : Tp K "_law_is_numbers" s__law_is_numbers f__law_is_numbers) {f__law_less : Addr} (t__law_less : Tp K "_law_less" s__law_less f__law_less) {f__law_are_numbers : Addr} (t__law_are_numbers : Tp K "_law_are_numbers" s__law_are_numbers f__law_are_numbers) {f__law_mean : Addr} (t__law_mean : Tp K "_law_mean" s__law_mean f__law_mean) {f__law_are_chances : Addr} (t__law_are_chances : Tp K "_law_are_chances" s__law_are_chances f__law_are_chances) {f_law : Addr} (t_law : Tp K "law" s_law f_law)
    {aN aO : Addr} {odN odO : Option Addr} {tN uN tO uO : Tok} {nN nO : Nat} {slN slO : Array (Option Value)} (n_a : PySem.W.nsIn K mainGlobals "NOUGHT" = some (some (.ref aN))) (n_l : K.lookup aN = some ⟨.type "tuple", odN, .seq #[.int 0 tN, .int 1 uN] nN, slN⟩) (o_a : PySem.W.nsIn K mainGlobals "ONE" = some (some (.ref aO))) (o_l : K.lookup aO = some ⟨.type "tuple", odO, .seq #[.int 1 tO, .int 1 uO] nO, slO⟩) (g_c : PySem.W.nsIn K mainGlobals "gcd" = some (some (.builtin "math.gcd"))) (z_len : PySem.W.nsIn K mainGlobals "len" = some none) (z_any : PySem.W.nsIn K mainGlobals "any" = some none) (z_all : PySem.W.nsIn K mainGlobals "all" = some none) (z_sum : PySem.W.nsIn K mainGlobals "sum" = some none) (z_abs : PySem.W.nsIn K mainGlobals "abs" = some none) (z_min : PySem.W.nsIn K mainGlobals "min" = some none) (z_int : PySem.W.nsIn K mainGlobals "int" = some none) (z_list : PySem.W.nsIn K mainGlobals "list" = some none) (z_sorted : PySem.W.nsIn K mainGlobals "sorted" = some none) (z_isinstance : PySem.W.nsIn K mainGlobals "isinstance" = some none) (z_range : PySem.W.nsIn K mainGlobals "range" = some none) (z_enumerate : PySem.W.nsIn K mainGlobals "enumerate" = some none) (z_zip : PySem.W.nsIn K mainGlobals "zip" = some none) (z_tuple : PySem.W.nsIn K mainGlobals "tuple" = some none) (z_bool : PySem.W.nsIn K mainGlobals "bool" = some none) :
    ∃ fd : FuncData, (∀ (s : Shared) (v : Value), BindsTo s fd ⟨[v], []⟩ [("_law_script", v)]) ∧ ∀ base : Heap, K.In base → base.Ns mainGlobals mg → FnOk l.prog w K mg base CX0 11 fa fd ["_law_script"] (spLaw K) := by
  have e := hfa.symm.trans (PySem.W.mg_of X G t_law.1)
  cases e
  have T : Tx K mg aN aO := ⟨PySem.W.mg_of X G n_a, PySem.W.mg_of X G o_a, dp_pair n_l, dp_pair o_l, PySem.W.mg_of X G g_c, PySem.W.mg_none_of X G z_len, PySem.W.mg_none_of X G z_any, PySem.W.mg_none_of X G z_all, PySem.W.mg_none_of X G z_sum, PySem.W.mg_none_of X G z_abs, PySem.W.mg_none_of X G z_min, PySem.W.mg_none_of X G z_int, PySem.W.mg_none_of X G z_list, PySem.W.mg_none_of X G z_sorted, PySem.W.mg_none_of X G z_isinstance, PySem.W.mg_none_of X G z_range, PySem.W.mg_none_of X G z_enumerate, PySem.W.mg_none_of X G z_zip, PySem.W.mg_none_of X G z_tuple, PySem.W.mg_none_of X G z_bool⟩
  obtain ⟨d_number, F_number⟩ := t_number.fn
  obtain ⟨d_compare, F_compare⟩ := t_compare.fn
  obtain ⟨d_plus, F_plus⟩ := t_plus.fn
  obtain ⟨d_minus, F_minus⟩ := t_minus.fn
  obtain ⟨d_times, F_times⟩ := t_times.fn
  obtain ⟨d_divided, F_divided⟩ := t_divided.fn
  obtain ⟨d_targets, F_targets⟩ := t_targets.fn
  obtain ⟨d_places_of, F_places_of⟩ := t_places_of.fn
  obtain ⟨d_copy_of, F_copy_of⟩ := t_copy_of.fn
  obtain ⟨d_with_strategy, F_with_strategy⟩ := t_with_strategy.fn
  obtain ⟨d_reached, F_reached⟩ := t_reached.fn
  obtain ⟨d_scaled, F_scaled⟩ := t_scaled.fn
  obtain ⟨d_without, F_without⟩ := t_without.fn
  obtain ⟨d_reduced, F_reduced⟩ := t_reduced.fn
  obtain ⟨d_solution_of, F_solution_of⟩ := t_solution_of.fn
  obtain ⟨d_only_solution, F_only_solution⟩ := t_only_solution.fn
  obtain ⟨d_branches, F_branches⟩ := t_branches.fn
  obtain ⟨d_all_reached, F_all_reached⟩ := t_all_reached.fn
  obtain ⟨d_means, F_means⟩ := t_means.fn
  obtain ⟨d_chances, F_chances⟩ := t_chances.fn
  obtain ⟨d_ranked, F_ranked⟩ := t_ranked.fn
  obtain ⟨d_sure_rule, F_sure_rule⟩ := t_sure_rule.fn
  obtain ⟨d_chance_rule, F_chance_rule⟩ := t_chance_rule.fn
  obtain ⟨d_ranks_in, F_ranks_in⟩ := t_ranks_in.fn
  obtain ⟨d_every_place, F_every_place⟩ := t_every_place.fn
  obtain ⟨d_chance_ranks, F_chance_ranks⟩ := t_chance_ranks.fn
  obtain ⟨d_no_chance, F_no_chance⟩ := t_no_chance.fn
  obtain ⟨d_keeping_away, F_keeping_away⟩ := t_keeping_away.fn
  obtain ⟨d_first_choices, F_first_choices⟩ := t_first_choices.fn
  obtain ⟨d_better, F_better⟩ := t_better.fn
  obtain ⟨d_improved, F_improved⟩ := t_improved.fn
  obtain ⟨d_finishing, F_finishing⟩ := t_finishing.fn
  obtain ⟨d_least_against, F_least_against⟩ := t_least_against.fn
  obtain ⟨d_greatest_against, F_greatest_against⟩ := t_greatest_against.fn
  obtain ⟨d__law_pool, F__law_pool⟩ := t__law_pool.fn
  obtain ⟨d__law_stream, F__law_stream⟩ := t__law_stream.fn
  obtain ⟨d__law_pick, F__law_pick⟩ := t__law_pick.fn
  obtain ⟨d__law_lowest, F__law_lowest⟩ := t__law_lowest.fn
  obtain ⟨d__law_place, F__law_place⟩ := t__law_place.fn
  obtain ⟨d__law_game, F__law_game⟩ := t__law_game.fn
  obtain ⟨d__law_strategy, F__law_strategy⟩ := t__law_strategy.fn
  obtain ⟨d__law_targets, F__law_targets⟩ := t__law_targets.fn
  obtain ⟨d__law_goals, F__law_goals⟩ := t__law_goals.fn
  obtain ⟨d__law_reaching, F__law_reaching⟩ := t__law_reaching.fn
  obtain ⟨d__law_add, F__law_add⟩ := t__law_add.fn
  obtain ⟨d__law_sub, F__law_sub⟩ := t__law_sub.fn
  obtain ⟨d__law_mul, F__law_mul⟩ := t__law_mul.fn
  obtain ⟨d__law_div, F__law_div⟩ := t__law_div.fn
  obtain ⟨d__law_row, F__law_row⟩ := t__law_row.fn
  obtain ⟨d__law_solved, F__law_solved⟩ := t__law_solved.fn
  obtain ⟨d__law_is_number, F__law_is_number⟩ := t__law_is_number.fn
  obtain ⟨d__law_is_numbers, F__law_is_numbers⟩ := t__law_is_numbers.fn
  obtain ⟨d__law_less, F__law_less⟩ := t__law_less.fn
  obtain ⟨d__law_are_numbers, F__law_are_numbers⟩ := t__law_are_numbers.fn
  obtain ⟨d__law_mean, F__law_mean⟩ := t__law_mean.fn
  obtain ⟨d__law_are_chances, F__law_are_chances⟩ := t__law_are_chances.fn
  obtain ⟨la, ⟨oc, od, kV, doc, pm, an, cdv, ct, osl, ll, lc⟩, lk⟩ := t_law
  have F_law := fun_mk ll lc lk
  refine ⟨PySem.W.fnOf "law" "law" (defArgs s_law) (defBody s_law) (defScope s_law) .none kV doc pm an cdv ct, fun s v => .of_eq rfl, fun base _ _ => ?_⟩
  have C_number : Cal l.prog w K mg base 1 "number" (spD K S_number) := cal_of X G t_number F_number (ok_number T F_number) fun _ _ _ _ _ _ us hl => match us, hl with | [_, _], _ => rfl
  have C_compare : Cal l.prog w K mg base 1 "compare" (spD K S_compare) := cal_of X G t_compare F_compare (ok_compare T F_compare) fun _ _ _ _ _ _ us hl => match us, hl with | [_, _], _ => rfl
  have C_plus : Cal l.prog w K mg base 2 "plus" (spD K (S_two (· + ·))) := cal_of X G t_plus F_plus (ok_plus T F_plus C_number) fun _ _ _ _ _ _ us hl => match us, hl with | [_, _], _ => rfl
  have C_minus : Cal l.prog w K mg base 2 "minus" (spD K (S_two (· - ·))) := cal_of X G t_minus F_minus (ok_minus T F_minus C_number) fun _ _ _ _ _ _ us hl => match us, hl with | [_, _], _ => rfl
  have C_times : Cal l.prog w K mg base 2 "times" (spD K (S_two (· * ·))) := cal_of X G t_times F_times (ok_times T F_times C_number) fun _ _ _ _ _ _ us hl => match us, hl with | [_, _], _ => rfl
  have C_divided : Cal l.prog w K mg base 2 "divided" (spD K S_div) := cal_of X G t_divided F_divided (ok_divided T F_divided C_number) fun _ _ _ _ _ _ us hl => match us, hl with | [_, _], _ => rfl
  have C_targets : Cal l.prog w K mg base 1 "targets" (spD K S_targets) := cal_of X G t_targets F_targets (ok_targets T F_targets) fun _ _ _ _ _ _ us hl => match us, hl with | [_, _], _ => rfl
  have C_places_of : Cal l.prog w K mg base 1 "places_of" (spD K S_places_of) := cal_of X G t_places_of F_places_of (ok_places_of T F_places_of) fun _ _ _ _ _ _ us hl => match us, hl with | [_, _], _ => rfl
  have C_copy_of : Cal l.prog w K mg base 1 "copy_of" (spD K S_copy_of) := cal_of X G t_copy_of F_copy_of (ok_copy_of T F_copy_of) fun _ _ _ _ _ _ us hl => match us, hl with | [_], _ => rfl
  have C_with_strategy : Cal l.prog w K mg base 2 "with_strategy" (spD K S_with_strategy) := cal_of X G t_with_strategy F_with_strategy (ok_with_strategy T F_with_strategy C_copy_of) fun _ _ _ _ _ _ us hl => match us, hl with | [_, _, _], _ => rfl
  have C_reached : Cal l.prog w K mg base 2 "reached" (spD K S_reached) := cal_of X G t_reached F_reached (ok_reached T F_reached C_targets) fun _ _ _ _ _ _ us hl => match us, hl with | [_, _], _ => rfl
  have C_scaled : Cal l.prog w K mg base 3 "scaled" (spD K S_scaled) := cal_of X G t_scaled F_scaled (ok_scaled T F_scaled C_times) fun _ _ _ _ _ _ us hl => match us, hl with | [_, _], _ => rfl
  have C_without : Cal l.prog w K mg base 4 "without" (spD K S_without) := cal_of X G t_without F_without (ok_without T F_without C_scaled C_minus) fun _ _ _ _ _ _ us hl => match us, hl with | [_, _, _], _ => rfl
  have C_reduced : Cal l.prog w K mg base 5 "reduced" (spD K S_reduced) := cal_of X G t_reduced F_reduced (ok_reduced T F_reduced C_scaled C_divided C_without) fun _ _ _ _ _ _ us hl => match us, hl with | [_, _], _ => rfl
  have C_solution_of : Cal l.prog w K mg base 1 "solution_of" (spD K S_solution_of) := cal_of X G t_solution_of F_solution_of (ok_solution_of T F_solution_of) fun _ _ _ _ _ _ us hl => match us, hl with | [_, _], _ => rfl
  have C_only_solution : Cal l.prog w K mg base 6 "only_solution" (spD K S_only) := cal_of X G t_only_solution F_only_solution (ok_only_solution T F_only_solution C_reduced C_solution_of) fun _ _ _ _ _ _ us hl => match us, hl with | [_, _], _ => rfl
  have C_branches : Cal l.prog w K mg base 1 "branches" (spD K S_branches) := cal_of X G t_branches F_branches (ok_branches T F_branches) fun _ _ _ _ _ _ us hl => match us, hl with | [_, _], _ => rfl
  have C_all_reached : Cal l.prog w K mg base 3 "all_reached" (spD K S_all_reached) := cal_of X G t_all_reached F_all_reached (ok_all_reached T F_all_reached C_reached) fun _ _ _ _ _ _ us hl => match us, hl with | [_], _ => rfl
  have C_means : Cal l.prog w K mg base 7 "means" (spD K S_means) := cal_of X G t_means F_means (ok_means T F_means C_branches C_minus C_plus C_times C_only_solution) fun _ _ _ _ _ _ us hl => match us, hl with | [_, _, _, _], _ => rfl
  have C_chances : Cal l.prog w K mg base 8 "chances" (spD K S_chances) := cal_of X G t_chances F_chances (ok_chances T F_chances C_all_reached C_means) fun _ _ _ _ _ _ us hl => match us, hl with | [_, _], _ => rfl
  have C_ranked : Cal l.prog w K mg base 2 "ranked" (spD K S_ranked) := cal_of X G t_ranked F_ranked (ok_ranked T F_ranked C_targets) fun _ _ _ _ _ _ us hl => match us, hl with | [_, _, _], _ => rfl
  have C_sure_rule : Cal l.prog w K mg base 3 "sure_rule" (spD K S_sure_rule) := cal_of X G t_sure_rule F_sure_rule (ok_sure_rule T F_sure_rule C_ranked) fun _ _ _ _ _ _ us hl => match us, hl with | [_, _, _, _], _ => rfl
  have C_chance_rule : Cal l.prog w K mg base 4 "chance_rule" (spD K S_chance_rule) := cal_of X G t_chance_rule F_chance_rule (ok_chance_rule T F_chance_rule C_ranked C_sure_rule) fun _ _ _ _ _ _ us hl => match us, hl with | [_, _, _, _], _ => rfl
  have C_ranks_in : Cal l.prog w K mg base 5 "ranks_in" (spD K (S_ranks_in f_chance_rule)) := cal_of X G t_ranks_in F_ranks_in (ok_ranks_in (fc := f_chance_rule) T F_ranks_in C_places_of (ok_chance_rule T F_chance_rule C_ranked C_sure_rule) t_chance_rule.2.2 (F_chance_rule.binds (ps := ["game", "place", "ranks", "inside"]) fun _ _ _ _ _ _ us hl => match us, hl with | [_, _, _, _], _ => rfl)) fun _ _ _ _ _ _ us hl => match us, hl with | [_, _, _], _ => rfl
  have C_every_place : Cal l.prog w K mg base 1 "every_place" (spD K S_every) := cal_of X G t_every_place F_every_place (ok_every_place T F_every_place) fun _ _ _ _ _ _ us hl => match us, hl with | [_], _ => rfl
  have C_chance_ranks : Cal l.prog w K mg base 6 "chance_ranks" (spD K S_chance_ranks) := cal_of X G t_chance_ranks F_chance_ranks (ok_chance_ranks T F_chance_ranks C_ranks_in C_every_place (PySem.W.mg_of X G t_chance_rule.1)) fun _ _ _ _ _ _ us hl => match us, hl with | [_], _ => rfl
  have C_no_chance : Cal l.prog w K mg base 7 "no_chance" (spD K S_no_chance) := cal_of X G t_no_chance F_no_chance (ok_no_chance T F_no_chance C_chance_ranks) fun _ _ _ _ _ _ us hl => match us, hl with | [_], _ => rfl
  have C_keeping_away : Cal l.prog w K mg base 8 "keeping_away" (spD K S_keeping) := cal_of X G t_keeping_away F_keeping_away (ok_keeping_away T F_keeping_away C_no_chance) fun _ _ _ _ _ _ us hl => match us, hl with | [_], _ => rfl
  have C_first_choices : Cal l.prog w K mg base 1 "first_choices" (spD K S_first) := cal_of X G t_first_choices F_first_choices (ok_first_choices T F_first_choices) fun _ _ _ _ _ _ us hl => match us, hl with | [_, _], _ => rfl
  have C_better : Cal l.prog w K mg base 2 "better" (spD K S_better) := cal_of X G t_better F_better (ok_better T F_better C_places_of C_targets C_compare) fun _ _ _ _ _ _ us hl => match us, hl with | [_, _, _, _], _ => rfl
  have C_improved : Cal l.prog w K mg base 3 "improved" (spD K S_improved) := cal_of X G t_improved F_improved (ok_improved T F_improved C_better) fun _ _ _ _ _ _ us hl => match us, hl with | [_, _, _], _ => rfl
  have C_finishing : Cal l.prog w K mg base 9 "finishing" (spD K S_finishing) := cal_of X G t_finishing F_finishing (ok_finishing T F_finishing C_with_strategy C_chances C_places_of) fun _ _ _ _ _ _ us hl => match us, hl with | [_, _, _], _ => rfl
  have C_least_against : Cal l.prog w K mg base 10 "least_against" (spD K S_least) := cal_of X G t_least_against F_least_against (ok_least_against T F_least_against C_keeping_away C_with_strategy C_finishing C_better) fun _ _ _ _ _ _ us hl => match us, hl with | [_, _], _ => rfl
  have C_greatest_against : Cal l.prog w K mg base 10 "greatest_against" (spD K S_greatest) := cal_of X G t_greatest_against F_greatest_against (ok_greatest_against T F_greatest_against C_first_choices C_finishing C_improved) fun _ _ _ _ _ _ us hl => match us, hl with | [_, _], _ => rfl
  have C__law_pool : Cal l.prog w K mg base 1 "_law_pool" (spN K S_pool) := cal_of X G t__law_pool F__law_pool (ok__law_pool T F__law_pool) fun _ _ _ _ _ _ us hl => match us, hl with | [_], _ => rfl
  have C__law_stream : Cal l.prog w K mg base 2 "_law_stream" (spStream K) := cal_of X G t__law_stream F__law_stream (ok__law_stream T F__law_stream C__law_pool) fun _ _ _ _ _ _ us hl => match us, hl with | [_], _ => rfl
  have C__law_pick : Cal l.prog w K mg base 1 "_law_pick" (spD K S_pick) := cal_of X G t__law_pick F__law_pick (ok__law_pick T F__law_pick) fun _ _ _ _ _ _ us hl => match us, hl with | [_, _], _ => rfl
  have C__law_lowest : Cal l.prog w K mg base 1 "_law_lowest" (spD K S_lowest) := cal_of X G t__law_lowest F__law_lowest (ok__law_lowest T F__law_lowest) fun _ _ _ _ _ _ us hl => match us, hl with | [_, _], _ => rfl
  have C__law_place : Cal l.prog w K mg base 2 "_law_place" (spD K S_lplace) := cal_of X G t__law_place F__law_place (ok__law_place T F__law_place C__law_pick C__law_lowest) fun _ _ _ _ _ _ us hl => match us, hl with | [_, _, _], _ => rfl
  have C__law_game : Cal l.prog w K mg base 3 "_law_game" (spD K S_lgame) := cal_of X G t__law_game F__law_game (ok__law_game T F__law_game C__law_pick C__law_place) fun _ _ _ _ _ _ us hl => match us, hl with | [_, _], _ => rfl
  have C__law_strategy : Cal l.prog w K mg base 2 "_law_strategy" (spD K S_lstrategy) := cal_of X G t__law_strategy F__law_strategy (ok__law_strategy T F__law_strategy C__law_pick) fun _ _ _ _ _ _ us hl => match us, hl with | [_, _, _], _ => rfl
  have C__law_targets : Cal l.prog w K mg base 1 "_law_targets" (spD K S_ltargets) := cal_of X G t__law_targets F__law_targets (ok__law_targets T F__law_targets) fun _ _ _ _ _ _ us hl => match us, hl with | [_, _], _ => rfl
  have C__law_goals : Cal l.prog w K mg base 2 "_law_goals" (spD K S_lgoals) := cal_of X G t__law_goals F__law_goals (ok__law_goals T F__law_goals C__law_targets) fun _ _ _ _ _ _ us hl => match us, hl with | [_, _, _, _], _ => rfl
  have C__law_reaching : Cal l.prog w K mg base 3 "_law_reaching" (spD K S_reaching) := cal_of X G t__law_reaching F__law_reaching (ok__law_reaching T F__law_reaching C__law_goals) fun _ _ _ _ _ _ us hl => match us, hl with | [_, _, _], _ => rfl
  have C__law_add : Cal l.prog w K mg base 2 "_law_add" (spD K (S_ltwo (· + ·))) := cal_of X G t__law_add F__law_add (ok__law_add T F__law_add C__law_lowest) fun _ _ _ _ _ _ us hl => match us, hl with | [_, _], _ => rfl
  have C__law_sub : Cal l.prog w K mg base 3 "_law_sub" (spD K (S_ltwo (· - ·))) := cal_of X G t__law_sub F__law_sub (ok__law_sub T F__law_sub C__law_add) fun _ _ _ _ _ _ us hl => match us, hl with | [_, _], _ => rfl
  have C__law_mul : Cal l.prog w K mg base 2 "_law_mul" (spD K (S_ltwo (· * ·))) := cal_of X G t__law_mul F__law_mul (ok__law_mul T F__law_mul C__law_lowest) fun _ _ _ _ _ _ us hl => match us, hl with | [_, _], _ => rfl
  have C__law_div : Cal l.prog w K mg base 2 "_law_div" (spD K S_ldiv) := cal_of X G t__law_div F__law_div (ok__law_div T F__law_div C__law_lowest) fun _ _ _ _ _ _ us hl => match us, hl with | [_, _], _ => rfl
  have C__law_row : Cal l.prog w K mg base 3 "_law_row" (spD K S_row) := cal_of X G t__law_row F__law_row (ok__law_row T F__law_row C__law_goals C__law_add) fun _ _ _ _ _ _ us hl => match us, hl with | [_, _, _, _, _], _ => rfl
  have C__law_solved : Cal l.prog w K mg base 4 "_law_solved" (spD K S_solved) := cal_of X G t__law_solved F__law_solved (ok__law_solved T F__law_solved C__law_reaching C__law_row C__law_sub C__law_div C__law_add C__law_mul) fun _ _ _ _ _ _ us hl => match us, hl with | [_, _, _], _ => rfl
  have C__law_is_number : Cal l.prog w K mg base 1 "_law_is_number" (spD K S_is_number) := cal_of X G t__law_is_number F__law_is_number (ok__law_is_number T F__law_is_number) fun _ _ _ _ _ _ us hl => match us, hl with | [_], _ => rfl
  have C__law_is_numbers : Cal l.prog w K mg base 2 "_law_is_numbers" (spD K S_is_numbers) := cal_of X G t__law_is_numbers F__law_is_numbers (ok__law_is_numbers T F__law_is_numbers C__law_is_number) fun _ _ _ _ _ _ us hl => match us, hl with | [_], _ => rfl
  have C__law_less : Cal l.prog w K mg base 1 "_law_less" (spD K S_less) := cal_of X G t__law_less F__law_less (ok__law_less T F__law_less) fun _ _ _ _ _ _ us hl => match us, hl with | [_, _], _ => rfl
  have C__law_are_numbers : Cal l.prog w K mg base 3 "_law_are_numbers" (spD K S_are_numbers) := cal_of X G t__law_are_numbers F__law_are_numbers (ok__law_are_numbers T F__law_are_numbers C__law_is_numbers C__law_less) fun _ _ _ _ _ _ us hl => match us, hl with | [_, _], _ => rfl
  have C__law_mean : Cal l.prog w K mg base 3 "_law_mean" (spD K S_lmean) := cal_of X G t__law_mean F__law_mean (ok__law_mean T F__law_mean C__law_add C__law_mul) fun _ _ _ _ _ _ us hl => match us, hl with | [_, _, _], _ => rfl
  have C__law_are_chances : Cal l.prog w K mg base 4 "_law_are_chances" (spD K S_are_chances) := cal_of X G t__law_are_chances F__law_are_chances (ok__law_are_chances T F__law_are_chances C__law_are_numbers C__law_reaching C__law_mean C__law_goals) fun _ _ _ _ _ _ us hl => match us, hl with | [_, _, _, _], _ => rfl
  exact ok_law T F_law C__law_stream C__law_game C__law_strategy C__law_solved C__law_are_chances C_least_against C_greatest_against C__law_are_numbers C__law_less
end G
end
open PySem PySem.W PyProof.Rows
set_option maxHeartbeats 0 in
theorem PySem.Challenge.cw_oddkeep_k53_whole_chances_between_holds : PySem.Challenge.rw_oddkeep_k53_whole_chances_between.Holds := by
  w_on; o_law; k_head; (case hw => w_witness2)
  k_fill
  refine L2.walk_of (l := PySem.Challenge.rw_oddkeep_k53_whole_chances_between) (n := 63) (k := 11) (x := "_law_script") (CX := fun _ => L2.CX0) (sp := fun w => G.spLaw _) rfl (by decide) rfl ⟨rfl, by decide, by decide⟩ (fun w h Y => PySem.W.kIn_of Y) ?F (fun _ _ a ns hl _ hS => ⟨a, ns, rfl, hS, by omega, fun _ => rfl⟩) (fun _ _ _ _ _ h => h)
  case F =>
    intro w mg fa h KX GX hmg
    refine' G.all_mk KX GX hmg ?t_number ?t_compare ?t_plus ?t_minus ?t_times ?t_divided ?t_targets ?t_places_of ?t_copy_of ?t_with_strategy ?t_reached ?t_scaled ?t_without ?t_reduced ?t_solution_of ?t_only_solution ?t_branches ?t_all_reached ?t_means ?t_chances ?t_ranked ?t_sure_rule ?t_chance_rule ?t_ranks_in ?t_every_place ?t_chance_ranks ?t_no_chance ?t_keeping_away ?t_first_choices ?t_better ?t_improved ?t_finishing ?t_least_against ?t_greatest_against ?t__law_pool ?t__law_stream ?t__law_pick ?t__law_lowest ?t__law_place ?t__law_game ?t__law_strategy ?t__law_targets ?t__law_goals ?t__law_reaching ?t__law_add ?t__law_sub ?t__law_mul ?t__law_div ?t__law_row ?t__law_solved ?t__law_is_number ?t__law_is_numbers ?t__law_less ?t__law_are_numbers ?t__law_mean ?t__law_are_chances ?t_law ?n_a ?n_l ?o_a ?o_l ?g_c ?z_len ?z_any ?z_all ?z_sum ?z_abs ?z_min ?z_int ?z_list ?z_sorted ?z_isinstance ?z_range ?z_enumerate ?z_zip ?z_tuple ?z_bool
    (case t_number => refine' G.tp_mk ?a ?l ?c ?k; (case a => k_is); (case l => k_is); (case c => k_is); (case k => k_is))
    (case t_compare => refine' G.tp_mk ?a ?l ?c ?k; (case a => k_is); (case l => k_is); (case c => k_is); (case k => k_is))
    (case t_plus => refine' G.tp_mk ?a ?l ?c ?k; (case a => k_is); (case l => k_is); (case c => k_is); (case k => k_is))
    (case t_minus => refine' G.tp_mk ?a ?l ?c ?k; (case a => k_is); (case l => k_is); (case c => k_is); (case k => k_is))
    (case t_times => refine' G.tp_mk ?a ?l ?c ?k; (case a => k_is); (case l => k_is); (case c => k_is); (case k => k_is))
    (case t_divided => refine' G.tp_mk ?a ?l ?c ?k; (case a => k_is); (case l => k_is); (case c => k_is); (case k => k_is))
    (case t_targets => refine' G.tp_mk ?a ?l ?c ?k; (case a => k_is); (case l => k_is); (case c => k_is); (case k => k_is))
    (case t_places_of => refine' G.tp_mk ?a ?l ?c ?k; (case a => k_is); (case l => k_is); (case c => k_is); (case k => k_is))
    (case t_copy_of => refine' G.tp_mk ?a ?l ?c ?k; (case a => k_is); (case l => k_is); (case c => k_is); (case k => k_is))
    (case t_with_strategy => refine' G.tp_mk ?a ?l ?c ?k; (case a => k_is); (case l => k_is); (case c => k_is); (case k => k_is))
    (case t_reached => refine' G.tp_mk ?a ?l ?c ?k; (case a => k_is); (case l => k_is); (case c => k_is); (case k => k_is))
    (case t_scaled => refine' G.tp_mk ?a ?l ?c ?k; (case a => k_is); (case l => k_is); (case c => k_is); (case k => k_is))
    (case t_without => refine' G.tp_mk ?a ?l ?c ?k; (case a => k_is); (case l => k_is); (case c => k_is); (case k => k_is))
    (case t_reduced => refine' G.tp_mk ?a ?l ?c ?k; (case a => k_is); (case l => k_is); (case c => k_is); (case k => k_is))
    (case t_solution_of => refine' G.tp_mk ?a ?l ?c ?k; (case a => k_is); (case l => k_is); (case c => k_is); (case k => k_is))
    (case t_only_solution => refine' G.tp_mk ?a ?l ?c ?k; (case a => k_is); (case l => k_is); (case c => k_is); (case k => k_is))
    (case t_branches => refine' G.tp_mk ?a ?l ?c ?k; (case a => k_is); (case l => k_is); (case c => k_is); (case k => k_is))
    (case t_all_reached => refine' G.tp_mk ?a ?l ?c ?k; (case a => k_is); (case l => k_is); (case c => k_is); (case k => k_is))
    (case t_means => refine' G.tp_mk ?a ?l ?c ?k; (case a => k_is); (case l => k_is); (case c => k_is); (case k => k_is))
    (case t_chances => refine' G.tp_mk ?a ?l ?c ?k; (case a => k_is); (case l => k_is); (case c => k_is); (case k => k_is))
    (case t_ranked => refine' G.tp_mk ?a ?l ?c ?k; (case a => k_is); (case l => k_is); (case c => k_is); (case k => k_is))
    (case t_sure_rule => refine' G.tp_mk ?a ?l ?c ?k; (case a => k_is); (case l => k_is); (case c => k_is); (case k => k_is))
    (case t_chance_rule => refine' G.tp_mk ?a ?l ?c ?k; (case a => k_is); (case l => k_is); (case c => k_is); (case k => k_is))
    (case t_ranks_in => refine' G.tp_mk ?a ?l ?c ?k; (case a => k_is); (case l => k_is); (case c => k_is); (case k => k_is))
    (case t_every_place => refine' G.tp_mk ?a ?l ?c ?k; (case a => k_is); (case l => k_is); (case c => k_is); (case k => k_is))
    (case t_chance_ranks => refine' G.tp_mk ?a ?l ?c ?k; (case a => k_is); (case l => k_is); (case c => k_is); (case k => k_is))
    (case t_no_chance => refine' G.tp_mk ?a ?l ?c ?k; (case a => k_is); (case l => k_is); (case c => k_is); (case k => k_is))
    (case t_keeping_away => refine' G.tp_mk ?a ?l ?c ?k; (case a => k_is); (case l => k_is); (case c => k_is); (case k => k_is))
    (case t_first_choices => refine' G.tp_mk ?a ?l ?c ?k; (case a => k_is); (case l => k_is); (case c => k_is); (case k => k_is))
    (case t_better => refine' G.tp_mk ?a ?l ?c ?k; (case a => k_is); (case l => k_is); (case c => k_is); (case k => k_is))
    (case t_improved => refine' G.tp_mk ?a ?l ?c ?k; (case a => k_is); (case l => k_is); (case c => k_is); (case k => k_is))
    (case t_finishing => refine' G.tp_mk ?a ?l ?c ?k; (case a => k_is); (case l => k_is); (case c => k_is); (case k => k_is))
    (case t_least_against => refine' G.tp_mk ?a ?l ?c ?k; (case a => k_is); (case l => k_is); (case c => k_is); (case k => k_is))
    (case t_greatest_against => refine' G.tp_mk ?a ?l ?c ?k; (case a => k_is); (case l => k_is); (case c => k_is); (case k => k_is))
    (case t__law_pool => refine' G.tp_mk ?a ?l ?c ?k; (case a => k_is); (case l => k_is); (case c => k_is); (case k => k_is))
    (case t__law_stream => refine' G.tp_mk ?a ?l ?c ?k; (case a => k_is); (case l => k_is); (case c => k_is); (case k => k_is))
    (case t__law_pick => refine' G.tp_mk ?a ?l ?c ?k; (case a => k_is); (case l => k_is); (case c => k_is); (case k => k_is))
    (case t__law_lowest => refine' G.tp_mk ?a ?l ?c ?k; (case a => k_is); (case l => k_is); (case c => k_is); (case k => k_is))
    (case t__law_place => refine' G.tp_mk ?a ?l ?c ?k; (case a => k_is); (case l => k_is); (case c => k_is); (case k => k_is))
    (case t__law_game => refine' G.tp_mk ?a ?l ?c ?k; (case a => k_is); (case l => k_is); (case c => k_is); (case k => k_is))
    (case t__law_strategy => refine' G.tp_mk ?a ?l ?c ?k; (case a => k_is); (case l => k_is); (case c => k_is); (case k => k_is))
    (case t__law_targets => refine' G.tp_mk ?a ?l ?c ?k; (case a => k_is); (case l => k_is); (case c => k_is); (case k => k_is))
    (case t__law_goals => refine' G.tp_mk ?a ?l ?c ?k; (case a => k_is); (case l => k_is); (case c => k_is); (case k => k_is))
    (case t__law_reaching => refine' G.tp_mk ?a ?l ?c ?k; (case a => k_is); (case l => k_is); (case c => k_is); (case k => k_is))
    (case t__law_add => refine' G.tp_mk ?a ?l ?c ?k; (case a => k_is); (case l => k_is); (case c => k_is); (case k => k_is))
    (case t__law_sub => refine' G.tp_mk ?a ?l ?c ?k; (case a => k_is); (case l => k_is); (case c => k_is); (case k => k_is))
    (case t__law_mul => refine' G.tp_mk ?a ?l ?c ?k; (case a => k_is); (case l => k_is); (case c => k_is); (case k => k_is))
    (case t__law_div => refine' G.tp_mk ?a ?l ?c ?k; (case a => k_is); (case l => k_is); (case c => k_is); (case k => k_is))
    (case t__law_row => refine' G.tp_mk ?a ?l ?c ?k; (case a => k_is); (case l => k_is); (case c => k_is); (case k => k_is))
    (case t__law_solved => refine' G.tp_mk ?a ?l ?c ?k; (case a => k_is); (case l => k_is); (case c => k_is); (case k => k_is))
    (case t__law_is_number => refine' G.tp_mk ?a ?l ?c ?k; (case a => k_is); (case l => k_is); (case c => k_is); (case k => k_is))
    (case t__law_is_numbers => refine' G.tp_mk ?a ?l ?c ?k; (case a => k_is); (case l => k_is); (case c => k_is); (case k => k_is))
    (case t__law_less => refine' G.tp_mk ?a ?l ?c ?k; (case a => k_is); (case l => k_is); (case c => k_is); (case k => k_is))
    (case t__law_are_numbers => refine' G.tp_mk ?a ?l ?c ?k; (case a => k_is); (case l => k_is); (case c => k_is); (case k => k_is))
    (case t__law_mean => refine' G.tp_mk ?a ?l ?c ?k; (case a => k_is); (case l => k_is); (case c => k_is); (case k => k_is))
    (case t__law_are_chances => refine' G.tp_mk ?a ?l ?c ?k; (case a => k_is); (case l => k_is); (case c => k_is); (case k => k_is))
    (case t_law => refine' G.tp_mk ?a ?l ?c ?k; (case a => k_is); (case l => k_is); (case c => k_is); (case k => k_is))
    (case n_a => k_is)
    (case n_l => k_is)
    (case o_a => k_is)
    (case o_l => k_is)
    (case g_c => k_is)
    (case z_len => k_is)
    (case z_any => k_is)
    (case z_all => k_is)
    (case z_sum => k_is)
    (case z_abs => k_is)
    (case z_min => k_is)
    (case z_int => k_is)
    (case z_list => k_is)
    (case z_sorted => k_is)
    (case z_isinstance => k_is)
    (case z_range => k_is)
    (case z_enumerate => k_is)
    (case z_zip => k_is)
    (case z_tuple => k_is)
    (case z_bool => k_is)
