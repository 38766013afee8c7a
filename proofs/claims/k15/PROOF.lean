import PyProof.Rows.All
import Wide.All
import OpenK.AllK
import Wide.FinOn
import HandS.ForMost
import HandS.ForExc
import HandS.CallSlots
import HandS.HotCalls
import HandS.IsInst
import HandS.ExcIs
import HandS.Wide
import HandS.WideBits
import HandS.TupAny
import HandS.Style
import HandS.Rev
import HandS.RevTup
import HandS.Iter
import KE.GoesMore
import HandS.Conv
import HandS.Ends
import PySem.Challenge.RW_bitsoftrees_k15_whole_ranks_of_rows_and
set_option Elab.async false
set_option linter.all false
set_option maxRecDepth 100000
set_option maxHeartbeats 4000000
namespace AB
open PySem PySem.Spec PyProof.Rows L2

/-! ### heaps -/
section
variable {K : PySem.W.Frag} {H H' B B' : Hp} {a p l : Addr} {o u : HO} {xs : List V}
theorem same_new (h : H p = none) : Same H (upd H p o) := fun b x e => by
  rw [upd_ne (ne_of_none e h)]
  exact e
theorem same_rd (e : Same H H') (h : Rd H a u) : Rd H' a u := by
  rcases h with h | ⟨o, h⟩
  · exact .inl (e a _ h)
  · exact .inr ⟨o, e a _ h⟩
theorem same_t (e : Same H H') (h : SqT K H a xs) : SqT K H' a xs := by
  rcases h with h | h
  · exact .inl (same_rd e h)
  · exact .inr h
theorem same_l (e : Same H H') (h : SqL K H a xs) : SqL K H' a xs := e.seq h
theorem sql_of (h : H a = some (.lst xs)) : SqL K H a xs := .inl (.inl h)
theorem sqt_of (h : H a = some (.tup xs)) : SqT K H a xs := .inl (.inl h)
end
/-- the script: a list that is only read -/
def Scr (K : PySem.W.Frag) (H : Hp) (a : Addr) (ns : List Int) : Prop :=
  (∃ o, H a = some (.frz o (.lst (ns.map V.int)))) ∨ ∃ (o : Obj) (its : Array Value) (n : Nat), K.lookup a = some o ∧ o.cls = .type "list" ∧ o.dict = none ∧ o.data = .seq its n ∧ its.size ≤ sizeLine ∧ Vals (ns.map V.int) its.toList
theorem Scr.mono {K : PySem.W.Frag} {H H' : Hp} {a : Addr} {ns : List Int} (h : Scr K H a ns) (e : Same H H') : Scr K H' a ns := by
  rcases h with ⟨o, h⟩ | h
  · exact .inl ⟨o, e _ _ h⟩
  · exact .inr h
theorem Scr.sq {K : PySem.W.Frag} {H : Hp} {a : Addr} {ns : List Int} (h : Scr K H a ns) : SqL K H a (ns.map V.int) := by
  rcases h with ⟨o, h⟩ | h
  · exact .inl (.inr ⟨o, h⟩)
  · exact .inr h
mutual
inductive Dq (K : PySem.W.Frag) (H : Hp) : V → PyData → Prop
  | non : Dq K H .non .none
  | bl (b : Bool) : Dq K H (.bl b) (.bool b)
  | int (i : Int) : Dq K H (.int i) (.int i)
  | str (x : Str) : Dq K H (.str x) (.str x)
  | lst {a : Addr} {xs : List V} {ds : List PyData} : H a = some (.lst xs) → DqAll K H xs ds → Dq K H (.ref a) (.list ds)
  | tup {a : Addr} {xs : List V} {ds : List PyData} : SqT K H a xs → DqAll K H xs ds → Dq K H (.ref a) (.tuple ds)
  | scr {a : Addr} {ns : List Int} : Scr K H a ns → Dq K H (.ref a) (.dict [(.none, .list (ns.map PyData.int))])
inductive DqAll (K : PySem.W.Frag) (H : Hp) : List V → List PyData → Prop
  | nil : DqAll K H [] []
  | cons {v : V} {vs : List V} {d : PyData} {ds : List PyData} : Dq K H v d → DqAll K H vs ds → DqAll K H (v :: vs) (d :: ds)
end
mutual
theorem dq_dp {K : PySem.W.Frag} {H : Hp} : ∀ (d : PyData) (v : V), d.canLay0 = true → Dq K H v d → Dp K H v d
  | .none, _, _, h => by cases h; exact .non
  | .bool b, _, _, h => by cases h; exact .bl b
  | .int i, _, _, h => by cases h; exact .int i
  | .str x, _, _, h => by cases h; exact .str x
  | .list ds, _, c, h => by
    cases h with
    | lst hs ha => exact .lst (sql_of hs) (dqAll_dp ds _ (by simpa [PyData.canLay0] using c) ha)
  | .tuple ds, _, c, h => by
    cases h with
    | tup hs ha => exact .tup hs (dqAll_dp ds _ (by simpa [PyData.canLay0] using c) ha)
  | .dict _, _, c, h => by simp [PyData.canLay0] at c
theorem dqAll_dp {K : PySem.W.Frag} {H : Hp} : ∀ (ds : List PyData) (vs : List V), PyData.canLayAll0 ds = true → DqAll K H vs ds → DpAll K H vs ds
  | [], _, _, h => by cases h; exact .nil
  | d :: ds, _, c, h => by
    cases h with
    | cons h1 h2 =>
      have c' : d.canLay0 = true ∧ PyData.canLayAll0 ds = true := by simpa [PyData.canLayAll0] using c
      exact .cons (dq_dp d _ c'.1 h1) (dqAll_dp ds _ c'.2 h2)
end
mutual
theorem dp_mono {K : PySem.W.Frag} {H H' : Hp} (e : Same H H') : ∀ (d : PyData) (v : V), Dq K H v d → Dq K H' v d
  | .none, _, h => by cases h; exact .non
  | .bool b, _, h => by cases h; exact .bl b
  | .int i, _, h => by cases h; exact .int i
  | .str x, _, h => by cases h; exact .str x
  | .list ds, _, h => by
    cases h with
    | lst hs ha => exact .lst (e _ _ hs) (dpAll_mono e ds _ ha)
  | .tuple ds, _, h => by
    cases h with
    | tup hs ha => exact .tup (same_t e hs) (dpAll_mono e ds _ ha)
  | .dict _, _, h => by
    cases h with
    | scr hs => exact .scr (hs.mono e)
theorem dpAll_mono {K : PySem.W.Frag} {H H' : Hp} (e : Same H H') : ∀ (ds : List PyData) (vs : List V), DqAll K H vs ds → DqAll K H' vs ds
  | [], _, h => by cases h; exact .nil
  | d :: ds, _, h => by
    cases h with
    | cons h1 h2 => exact .cons (dp_mono e d _ h1) (dpAll_mono e ds _ h2)
end
section
variable {K : PySem.W.Frag} {H : Hp}
theorem dpAll_len : ∀ {vs : List V} {ds : List PyData}, DqAll K H vs ds → vs.length = ds.length
  | _, _, .nil => rfl
  | _, _, .cons _ t => by rw [List.length_cons, List.length_cons, dpAll_len t]
theorem dpAll_get : ∀ {vs : List V} {ds : List PyData} {i : Nat} {d : PyData}, DqAll K H vs ds → ds[i]? = some d → ∃ v, vs[i]? = some v ∧ Dq K H v d
  | _, _, _, _, .nil, e => by simp at e
  | _, _, 0, _, .cons r _, e => by simp at e; subst e; exact ⟨_, rfl, r⟩
  | _, _, i + 1, d, .cons _ t, e => by
    obtain ⟨v, h1, h2⟩ := dpAll_get (i := i) (d := d) t (by simpa using e)
    exact ⟨v, by simpa using h1, h2⟩
theorem dpAll_getV : ∀ {vs : List V} {ds : List PyData} {i : Nat} {v : V}, DqAll K H vs ds → vs[i]? = some v → ∃ d, ds[i]? = some d ∧ Dq K H v d
  | _, _, _, _, .nil, e => by simp at e
  | _, _, 0, _, .cons r _, e => by simp at e; subst e; exact ⟨_, rfl, r⟩
  | _, _, i + 1, d, .cons _ t, e => by
    obtain ⟨v, h1, h2⟩ := dpAll_getV (i := i) (v := d) t (by simpa using e)
    exact ⟨v, by simpa using h1, h2⟩
theorem dpAll_app : ∀ {vs ws : List V} {ds es : List PyData}, DqAll K H vs ds → DqAll K H ws es → DqAll K H (vs ++ ws) (ds ++ es)
  | _, _, _, _, .nil, s => s
  | _, _, _, _, .cons r t, s => .cons r (dpAll_app t s)
theorem dpAll_take (n : Nat) : ∀ {vs : List V} {ds : List PyData}, DqAll K H vs ds → DqAll K H (vs.take n) (ds.take n) := by
  induction n with
  | zero => intro vs ds _; exact .nil
  | succ n ih =>
    intro vs ds h
    cases h with
    | nil => exact .nil
    | cons r t => exact .cons r (ih t)
theorem dpAll_drop (n : Nat) : ∀ {vs : List V} {ds : List PyData}, DqAll K H vs ds → DqAll K H (vs.drop n) (ds.drop n) := by
  induction n with
  | zero => intro vs ds h; exact h
  | succ n ih =>
    intro vs ds h
    cases h with
    | nil => exact .nil
    | cons r t => exact ih t
theorem dpAll_rev : ∀ {vs : List V} {ds : List PyData}, DqAll K H vs ds → DqAll K H vs.reverse ds.reverse
  | _, _, .nil => .nil
  | _, _, .cons r t => by
    rw [List.reverse_cons, List.reverse_cons]
    exact dpAll_app (dpAll_rev t) (.cons r .nil)
theorem dpAll_set {v : V} {d : PyData} (r : Dq K H v d) : ∀ {vs : List V} {ds : List PyData} (i : Nat), DqAll K H vs ds → DqAll K H (vs.set i v) (ds.set i d)
  | _, _, _, .nil => .nil
  | _, _, 0, .cons _ t => .cons r t
  | _, _, i + 1, .cons q t => .cons q (dpAll_set r i t)
theorem dpAll_ints : ∀ (ns : List Int), DqAll K H (ns.map V.int) (ns.map PyData.int)
  | [] => .nil
  | n :: r => .cons (.int n) (dpAll_ints r)
theorem dpAll_ints_inv : ∀ {ns : List Int} {vs : List V}, DqAll K H vs (ns.map PyData.int) → vs = ns.map V.int
  | [], _, .nil => rfl
  | n :: r, _, .cons h t => by
    cases h
    rw [dpAll_ints_inv t]
    rfl
end

/-- B' and H' have grown from B and H; what H had and B had not, B' has not -/
structure Grow (B H B' H' : Hp) : Prop where
  b : Same B B'
  i : Same B' H'
  h : Same H H'
  n : ∀ l, H l ≠ none → B l = none → B' l = none
theorem Grow.refl {B H : Hp} (i : Same B H) : Grow B H B H := ⟨Same.refl B, i, Same.refl H, fun _ _ e => e⟩
theorem Grow.trans {B H B1 H1 B2 H2 : Hp} (a : Grow B H B1 H1) (c : Grow B1 H1 B2 H2) : Grow B H B2 H2 :=
  ⟨a.b.trans c.b, c.i, a.h.trans c.h, fun l h1 h2 => c.n l (fun z => h1 (Same.free a.h z)) (a.n l h1 h2)⟩
theorem Grow.new {B H : Hp} {p : Addr} {o : HO} (i : Same B H) (h : H p = none) : Grow B H (upd B p o) (upd H p o) :=
  ⟨same_new (Same.free i h), fun a u e => by
    by_cases ha : a = p
    · subst ha
      rw [upd_same] at e ⊢
      exact e
    · rw [upd_ne ha] at e ⊢
      exact i a u e, same_new h, fun l h1 h2 => by
    rw [upd_ne (fun z => h1 (by rw [z]; exact h))]
    exact h2⟩
/-- a new object that only H' has -/
theorem Grow.own {B H : Hp} {p : Addr} {o : HO} (i : Same B H) (h : H p = none) : Grow B H B (upd H p o) :=
  ⟨Same.refl B, i.trans (same_new h), same_new h, fun _ _ e => e⟩

/-! ### what stands in the slots -/
inductive SV where
  | no
  | val (d : PyData)
  | lst (xs : List PyData)
  | drw (l : Addr)
inductive TV where
  | dat (d : PyData)
  | ali (i : Nat)
def DrawsAt (H : Hp) (l : Addr) : Prop := ∃ ns : List Int, H l = some (.lst (ns.map V.int)) ∧ (∀ n ∈ ns, 0 ≤ n) ∧ ns.length ≤ 100000
def Sl (K : PySem.W.Frag) (H0 B H : Hp) : SV → Option V → Prop
  | .no, _ => True
  | .val d, o => ∃ v, o = some v ∧ Dq K B v d
  | .lst xs, o => ∃ l vs, o = some (.ref l) ∧ H0 l = none ∧ B l = none ∧ H l = some (.lst vs) ∧ DqAll K B vs xs
  | .drw l, o => o = some (.ref l) ∧ H0 l = none ∧ B l = none ∧ DrawsAt H l
def Own : SV → Option V → Addr → Prop
  | .lst _, o, l => o = some (.ref l)
  | .drw _, o, l => o = some (.ref l)
  | _, _, _ => False
def TOk (K : PySem.W.Frag) (B : Hp) (σ : L2.St) (v : V) : TV → Prop
  | .dat d => Dq K B v d
  | .ali i => σ[i]? = some (some v)
structure RepB (K : PySem.W.Frag) (B0 H0 B H : Hp) (T : List (V × TV)) (ss : List SV) (σ : L2.St) : Prop where
  g : Grow B0 H0 B H
  len : ss.length = σ.length
  sl : ∀ (k : Nat) s, ss[k]? = some s → ∃ o, σ[k]? = some o ∧ Sl K H0 B H s o
  t : ∀ p ∈ T, TOk K B σ p.1 p.2
  ap : ∀ (i j : Nat) si sj oi oj l, ss[i]? = some si → ss[j]? = some sj → σ[i]? = some oi → σ[j]? = some oj → Own si oi l → Own sj oj l → i = j
def Rep (K : PySem.W.Frag) (B0 H0 : Hp) (T : List (V × TV)) (ss : List SV) (σ : L2.St) (H : Hp) : Prop := ∃ B, RepB K B0 H0 B H T ss σ
theorem own_at {K : PySem.W.Frag} {H0 B H : Hp} {s : SV} {o : Option V} {l : Addr} (h : Sl K H0 B H s o) (w : Own s o l) : H0 l = none ∧ B l = none ∧ H l ≠ none := by
  cases s with
  | no => exact w.elim
  | val d => exact w.elim
  | lst xs =>
    obtain ⟨m, vs, rfl, h0, h1, h2, _⟩ := h
    cases w
    exact ⟨h0, h1, by rw [h2]; exact fun z => nomatch z⟩
  | drw m =>
    obtain ⟨e, h0, h1, ns, h2, _⟩ := h
    have q : o = some (.ref l) := w
    rw [e] at q
    cases q
    exact ⟨h0, h1, by rw [h2]; exact fun z => nomatch z⟩
theorem sl_grow {K : PySem.W.Frag} {H0 B H B' H' : Hp} (g : Grow B H B' H') {s : SV} {o : Option V} (h : Sl K H0 B H s o) : Sl K H0 B' H' s o := by
  cases s with
  | no => trivial
  | val d =>
    obtain ⟨v, e, h⟩ := h
    exact ⟨v, e, dp_mono g.b _ _ h⟩
  | lst xs =>
    obtain ⟨l, vs, e, h0, h1, h2, h3⟩ := h
    exact ⟨l, vs, e, h0, g.n l (by rw [h2]; exact fun z => nomatch z) h1, g.h _ _ h2, dpAll_mono g.b _ _ h3⟩
  | drw l =>
    obtain ⟨e, h0, h1, ns, h2, h3⟩ := h
    exact ⟨e, h0, g.n l (by rw [h2]; exact fun z => nomatch z) h1, ns, g.h _ _ h2, h3⟩
theorem tok_grow {K : PySem.W.Frag} {B B' : Hp} {σ : L2.St} (e : Same B B') {v : V} {t : TV} (h : TOk K B σ v t) : TOk K B' σ v t := by
  cases t with
  | dat d => exact dp_mono e _ _ h
  | ali i => exact h
section
variable {K : PySem.W.Frag} {B0 H0 B H B' H' : Hp} {T : List (V × TV)} {ss : List SV} {σ : L2.St}
theorem RepB.grow (r : RepB K B0 H0 B H T ss σ) (g : Grow B H B' H') : RepB K B0 H0 B' H' T ss σ :=
  ⟨r.g.trans g, r.len, fun k s e => by
    obtain ⟨o, e1, h⟩ := r.sl k s e
    exact ⟨o, e1, sl_grow g h⟩, fun p hp => tok_grow g.b (r.t p hp), r.ap⟩
theorem RepB.push (r : RepB K B0 H0 B H T ss σ) {v : V} {t : TV} (h : TOk K B σ v t) : RepB K B0 H0 B H ((v, t) :: T) ss σ :=
  ⟨r.g, r.len, r.sl, fun p hp => by
    rcases List.mem_cons.mp hp with rfl | hp
    · exact h
    · exact r.t p hp, r.ap⟩
theorem RepB.sub {T' : List (V × TV)} (r : RepB K B0 H0 B H T ss σ) (h : ∀ p ∈ T', p ∈ T) : RepB K B0 H0 B H T' ss σ := ⟨r.g, r.len, r.sl, fun p hp => r.t p (h p hp), r.ap⟩
theorem Rep.sub {T' : List (V × TV)} (r : Rep K B0 H0 T ss σ H) (h : ∀ p ∈ T', p ∈ T) : Rep K B0 H0 T' ss σ H := let ⟨B, r⟩ := r; ⟨B, r.sub h⟩
theorem Rep.tl {p : V × TV} (r : Rep K B0 H0 (p :: T) ss σ H) : Rep K B0 H0 T ss σ H := r.sub fun _ h => List.mem_cons_of_mem _ h
/-- what is known now is the base from now on -/
theorem RepB.base (r : RepB K B0 H0 B H T ss σ) : RepB K B H0 B H T ss σ :=
  ⟨⟨Same.refl B, r.g.i, r.g.h, fun l h0 h1 => h1⟩, r.len, r.sl, r.t, r.ap⟩
theorem RepB.unbase {B1 H1 : Hp} {T1 : List (V × TV)} {ss1 : List SV} {σ1 : L2.St} (g : Grow B0 H0 B1 H1) (r : RepB K B1 H0 B H T ss σ) : RepB K B0 H0 B H T ss σ :=
  ⟨⟨g.b.trans r.g.b, r.g.i, r.g.h, fun l h0 h1 => r.g.n l h0 (g.n l h0 h1)⟩, r.len, r.sl, r.t, r.ap⟩
theorem Rep.unbase {B1 H1 : Hp} (g : Grow B0 H0 B1 H1) (r : Rep K B1 H0 T ss σ H) : Rep K B0 H0 T ss σ H := by
  obtain ⟨B, r⟩ := r
  exact ⟨B, ⟨g.b.trans r.g.b, r.g.i, r.g.h, fun l h0 h1 => r.g.n l h0 (g.n l h0 h1)⟩, r.len, r.sl, r.t, r.ap⟩
/-- a value stored -/
theorem RepB.setV (r : RepB K B0 H0 B H T ss σ) {v : V} {d : PyData} (h : Dq K B v d) (j : Nat) : RepB K B0 H0 B H [] (ss.set j (.val d)) (σ.set j (some v)) := by
  refine ⟨r.g, by rw [List.length_set, List.length_set]; exact r.len, fun k s e => ?_, fun p hp => (nomatch hp), fun i k si sk oi ok l e1 e2 e3 e4 w1 w2 => ?_⟩
  · by_cases hk : j = k
    · subst hk
      rw [List.getElem?_set] at e
      rw [if_pos rfl] at e
      split at e
      · rename_i hl
        cases e
        refine ⟨some v, ?_, v, rfl, h⟩
        rw [List.getElem?_set, if_pos rfl, if_pos (by rw [← r.len]; exact hl)]
      · cases e
    · rw [List.getElem?_set_ne hk] at e
      obtain ⟨o, e1, h1⟩ := r.sl k s e
      exact ⟨o, by rw [List.getElem?_set_ne hk]; exact e1, h1⟩
  · have nj : ∀ {x : Nat} {s : SV} {o : Option V}, (ss.set j (.val d))[x]? = some s → Own s o l → j ≠ x := fun {x s o} e w z => by
      subst z
      rw [List.getElem?_set, if_pos rfl] at e
      split at e
      · cases e
        exact w
      · cases e
    have n1 := nj e1 w1
    have n2 := nj e2 w2
    rw [List.getElem?_set_ne n1] at e1 e3
    rw [List.getElem?_set_ne n2] at e2 e4
    exact r.ap i k si sk oi ok l e1 e2 e3 e4 w1 w2
/-- an owned thing stored -/
theorem RepB.setO (r : RepB K B0 H0 B H T ss σ) {l : Addr} {s : SV} (h : Sl K H0 B H s (some (.ref l))) (ho : ∀ m, Own s (some (.ref l)) m → m = l) (nw : ∀ (k : Nat) s o, ss[k]? = some s → σ[k]? = some o → ¬ Own s o l) (j : Nat) : RepB K B0 H0 B H [] (ss.set j s) (σ.set j (some (.ref l))) := by
  refine ⟨r.g, by rw [List.length_set, List.length_set]; exact r.len, fun k t e => ?_, fun p hp => (nomatch hp), fun i k si sk oi ok m e1 e2 e3 e4 w1 w2 => ?_⟩
  · by_cases hk : j = k
    · subst hk
      rw [List.getElem?_set] at e
      rw [if_pos rfl] at e
      split at e
      · rename_i hl
        cases e
        refine ⟨some (.ref l), ?_, h⟩
        rw [List.getElem?_set, if_pos rfl, if_pos (by rw [← r.len]; exact hl)]
      · cases e
    · rw [List.getElem?_set_ne hk] at e
      obtain ⟨o, e1, h1⟩ := r.sl k t e
      exact ⟨o, by rw [List.getElem?_set_ne hk]; exact e1, h1⟩
  · have nj : ∀ {x : Nat} {t : SV} {o : Option V}, j = x → (ss.set j s)[x]? = some t → (σ.set j (some (.ref l)))[x]? = some o → Own t o m → m = l := fun {x t o} z e e' w => by
      subst z
      rw [List.getElem?_set, if_pos rfl] at e e'
      split at e
      · split at e'
        · cases e
          cases e'
          exact ho m w
        · cases e'
      · cases e
    by_cases h1 : j = i
    · by_cases h2 : j = k
      · exact h1.symm.trans h2
      · have q := nj h1 e1 e3 w1
        rw [List.getElem?_set_ne h2] at e2 e4
        subst q
        exact absurd w2 (nw k sk ok e2 e4)
    · by_cases h2 : j = k
      · have q := nj h2 e2 e4 w2
        rw [List.getElem?_set_ne h1] at e1 e3
        subst q
        exact absurd w1 (nw i si oi e1 e3)
      · rw [List.getElem?_set_ne h1] at e1 e3
        rw [List.getElem?_set_ne h2] at e2 e4
        exact r.ap i k si sk oi ok m e1 e2 e3 e4 w1 w2
/-- an owned list is from now on a value -/
theorem RepB.frz (r : RepB K B0 H0 B H T ss σ) {i : Nat} {xs : List PyData} (hi : ss[i]? = some (.lst xs)) : ∃ B', RepB K B0 H0 B' H T (ss.set i (.val (.list xs))) σ ∧ Same B B' := by
  obtain ⟨o, eo, l, vs, rfl, h0, h1, h2, h3⟩ := r.sl i _ hi
  have sb : Same B (upd B l (.lst vs)) := same_new h1
  refine ⟨upd B l (.lst vs), ⟨⟨r.g.b.trans sb, fun a u e => ?_, r.g.h, fun m q1 q2 => ?_⟩, by rw [List.length_set]; exact r.len, fun k s e => ?_, fun p hp => tok_grow sb (r.t p hp), fun x y sx sy ox oy m e1 e2 e3 e4 w1 w2 => ?_⟩, sb⟩
  · by_cases ha : a = l
    · subst ha
      rw [upd_same] at e
      rw [h2]
      exact e
    · rw [upd_ne ha] at e
      exact r.g.i a u e
  · rw [upd_ne (fun z => q1 (by rw [z]; exact h0))]
    exact r.g.n m q1 q2
  · by_cases hk : i = k
    · subst hk
      rw [List.getElem?_set, if_pos rfl] at e
      split at e
      · cases e
        exact ⟨_, eo, .ref l, rfl, .lst upd_same (dpAll_mono sb _ _ h3)⟩
      · cases e
    · rw [List.getElem?_set_ne hk] at e
      obtain ⟨ok, e1, hs⟩ := r.sl k s e
      refine ⟨ok, e1, ?_⟩
      cases s with
      | no => trivial
      | val d =>
        obtain ⟨v, e2, h⟩ := hs
        exact ⟨v, e2, dp_mono sb _ _ h⟩
      | lst ys =>
        obtain ⟨m, ws, rfl, q0, q1, q2, q3⟩ := hs
        have ne : m ≠ l := fun z => hk (r.ap i k _ _ _ _ l hi e eo e1 rfl (by rw [z] <;> rfl))
        exact ⟨m, ws, rfl, q0, by rw [upd_ne ne]; exact q1, q2, dpAll_mono sb _ _ q3⟩
      | drw m =>
        obtain ⟨rfl, q0, q1, q2⟩ := hs
        have ne : m ≠ l := fun z => hk (r.ap i k _ _ _ _ l hi e eo e1 rfl (by rw [z] <;> rfl))
        exact ⟨rfl, q0, by rw [upd_ne ne]; exact q1, q2⟩
  · have nj : ∀ {x : Nat} {s : SV} {o : Option V}, (ss.set i (.val (.list xs)))[x]? = some s → Own s o m → i ≠ x := fun {x s o} e w z => by
      subst z
      rw [List.getElem?_set, if_pos rfl] at e
      split at e
      · cases e
        exact w
      · cases e
    have n1 := nj e1 w1
    have n2 := nj e2 w2
    rw [List.getElem?_set_ne n1] at e1
    rw [List.getElem?_set_ne n2] at e2
    exact r.ap x y sx sy ox oy m e1 e2 e3 e4 w1 w2
/-- an owned list is written -/
theorem RepB.mut (r : RepB K B0 H0 B H T ss σ) {i : Nat} {xs ys : List PyData} {l : Addr} {ws : List V} (hi : ss[i]? = some (.lst xs)) (hl : σ[i]? = some (some (.ref l))) (hw : DqAll K B ws ys) : RepB K B0 H0 B (upd H l (.lst ws)) T (ss.set i (.lst ys)) σ := by
  obtain ⟨o, eo, l', vs, rfl, h0, h1, h2, h3⟩ := r.sl i _ hi
  rw [hl] at eo
  cases eo
  have nB : ∀ a u, B a = some u → a ≠ l := fun a u e z => by
    rw [z, h1] at e
    cases e
  refine ⟨⟨r.g.b, fun a u e => ?_, fun a u e => ?_, r.g.n⟩, by rw [List.length_set]; exact r.len, fun k s e => ?_, r.t, fun x y sx sy ox oy m e1 e2 e3 e4 w1 w2 => ?_⟩
  · rw [upd_ne (nB a u e)]
    exact r.g.i a u e
  · have na : a ≠ l := fun z => by
      rw [z, h0] at e
      cases e
    rw [upd_ne na]
    exact r.g.h a u e
  · by_cases hk : i = k
    · subst hk
      rw [List.getElem?_set, if_pos rfl] at e
      split at e
      · cases e
        exact ⟨_, hl, l, ws, rfl, h0, h1, upd_same, hw⟩
      · cases e
    · rw [List.getElem?_set_ne hk] at e
      obtain ⟨ok, e1, hs⟩ := r.sl k s e
      refine ⟨ok, e1, ?_⟩
      cases s with
      | no => trivial
      | val d => exact hs
      | lst zs =>
        obtain ⟨m, us, rfl, q0, q1, q2, q3⟩ := hs
        have ne : m ≠ l := fun z => hk (r.ap i k _ _ _ _ l hi e hl e1 rfl (by rw [z] <;> rfl))
        exact ⟨m, us, rfl, q0, q1, by rw [upd_ne ne]; exact q2, q3⟩
      | drw m =>
        obtain ⟨rfl, q0, q1, ns, q2, q3⟩ := hs
        have ne : m ≠ l := fun z => hk (r.ap i k _ _ _ _ l hi e hl e1 rfl (by rw [z] <;> rfl))
        exact ⟨rfl, q0, q1, ns, by rw [upd_ne ne]; exact q2, q3⟩
  · have same : ∀ {x : Nat} {s : SV} {o : Option V}, (ss.set i (.lst ys))[x]? = some s → σ[x]? = some o → Own s o m → ∃ s', ss[x]? = some s' ∧ Own s' o m := fun {x s o} e e' w => by
      by_cases hx : i = x
      · subst hx
        rw [List.getElem?_set, if_pos rfl] at e
        split at e
        · cases e
          exact ⟨_, hi, w⟩
        · cases e
      · rw [List.getElem?_set_ne hx] at e
        exact ⟨s, e, w⟩
    obtain ⟨s1, p1, w1⟩ := same e1 e3 w1
    obtain ⟨s2, p2, w2⟩ := same e2 e4 w2
    exact r.ap x y s1 s2 ox oy m p1 p2 e3 e4 w1 w2
end
end AB
namespace AB
open PySem PySem.Spec PyProof.Rows L2

/-! ### what an expression gives -/
inductive RV where
  | dat (d : PyData)
  | new (xs : List PyData)
  | drw
abbrev XP := Value → Prop
abbrev AE := List SV → (TV → Prop) → XP → Prop
abbrev AR := List SV → (RV → Prop) → XP → Prop
abbrev AT := List SV → (Bool → Prop) → XP → Prop
abbrev AA := List SV → (List TV → Prop) → XP → Prop
abbrev AO := List SV → (Option Int → Prop) → XP → Prop
def RepV (K : PySem.W.Frag) (H0 B H : Hp) (v : V) : RV → Prop
  | .dat d => Dq K B v d
  | .new xs => ∃ l vs, v = .ref l ∧ H0 l = none ∧ B l = none ∧ H l = some (.lst vs) ∧ DqAll K B vs xs
  | .drw => ∃ l, v = .ref l ∧ H0 l = none ∧ B l = none ∧ DrawsAt H l
def Apart (ss : List SV) (σ : L2.St) (v : V) : Prop := ∀ l, v = .ref l → ∀ (k : Nat) s o, ss[k]? = some s → σ[k]? = some o → ¬ Own s o l
def RepR (K : PySem.W.Frag) (B0 H0 : Hp) (T : List (V × TV)) (ss : List SV) (σ : L2.St) (H : Hp) (v : V) (r : RV) : Prop :=
  ∃ B, RepB K B0 H0 B H T ss σ ∧ RepV K H0 B H v r ∧ ((∃ d, r = .dat d) ∨ Apart ss σ v)
section
variable {K : PySem.W.Frag} {B0 H0 B H B' H' : Hp} {T : List (V × TV)} {ss : List SV} {σ : L2.St} {v : V} {r : RV}
theorem none_back (e : Same H H') {l : Addr} (h : H' l = none) : H l = none := Same.free e h
theorem repR_of (R : RepB K B0 H0 B H T ss σ) (g : Grow B H B' H') (h : RepV K H B' H' v r) : RepR K B0 H0 T ss σ H' v r := by
  refine ⟨B', R.grow g, ?_, ?_⟩
  · cases r with
    | dat d => exact h
    | new xs =>
      obtain ⟨l, vs, e, h1, h2⟩ := h
      exact ⟨l, vs, e, Same.free R.g.h h1, h2⟩
    | drw =>
      obtain ⟨l, e, h1, h2⟩ := h
      exact ⟨l, e, Same.free R.g.h h1, h2⟩
  · have ap : ∀ l, v = .ref l → H l = none → Apart ss σ v := fun l e hl m em k s o e1 e2 w => by
      rw [e] at em
      cases em
      obtain ⟨o', e3, hs⟩ := R.sl k s e1
      rw [e2] at e3
      cases e3
      exact (own_at hs w).2.2 hl
    cases r with
    | dat d => exact .inl ⟨d, rfl⟩
    | new xs =>
      obtain ⟨l, vs, e, h1, h2⟩ := h
      exact .inr (ap l e h1)
    | drw =>
      obtain ⟨l, e, h1, h2⟩ := h
      exact .inr (ap l e h1)
theorem repR_dat {d : PyData} (R : RepR K B0 H0 T ss σ H v (.dat d)) : Rep K B0 H0 ((v, .dat d) :: T) ss σ H := by
  obtain ⟨B, R, h, _⟩ := R
  exact ⟨B, R.push h⟩
/-- a fresh list is from now on a value -/
theorem repR_frz {xs : List PyData} (R : RepR K B0 H0 T ss σ H v (.new xs)) : RepR K B0 H0 T ss σ H v (.dat (.list xs)) := by
  obtain ⟨B, R, ⟨l, vs, rfl, h0, h1, h2, h3⟩, ap⟩ := R
  have ap : Apart ss σ (.ref l) := by
    rcases ap with ⟨d, e⟩ | ap
    · cases e
    · exact ap
  have sb : Same B (upd B l (.lst vs)) := same_new h1
  refine ⟨upd B l (.lst vs), ⟨⟨R.g.b.trans sb, fun a u e => ?_, R.g.h, fun m q1 q2 => ?_⟩, R.len, fun k s e => ?_, fun p hp => tok_grow sb (R.t p hp), R.ap⟩, .lst upd_same (dpAll_mono sb _ _ h3), .inl ⟨_, rfl⟩⟩
  · by_cases ha : a = l
    · subst ha
      rw [upd_same] at e
      rw [h2]
      exact e
    · rw [upd_ne ha] at e
      exact R.g.i a u e
  · rw [upd_ne (fun z => q1 (by rw [z]; exact h0))]
    exact R.g.n m q1 q2
  · obtain ⟨ok, e1, hs⟩ := R.sl k s e
    refine ⟨ok, e1, ?_⟩
    cases s with
    | no => trivial
    | val d =>
      obtain ⟨v, e2, h⟩ := hs
      exact ⟨v, e2, dp_mono sb _ _ h⟩
    | lst ys =>
      obtain ⟨m, ws, rfl, q0, q1, q2, q3⟩ := hs
      have ne : m ≠ l := fun z => ap l rfl k _ _ e e1 (by rw [z] <;> rfl)
      exact ⟨m, ws, rfl, q0, by rw [upd_ne ne]; exact q1, q2, dpAll_mono sb _ _ q3⟩
    | drw m =>
      obtain ⟨rfl, q0, q1, q2⟩ := hs
      have ne : m ≠ l := fun z => ap l rfl k _ _ e e1 (by rw [z] <;> rfl)
      exact ⟨rfl, q0, by rw [upd_ne ne]; exact q1, q2⟩
end

/-! ### soundness of an abstract reading -/
section
variable (K : PySem.W.Frag) (W : WX)
def Snd (te : TE) (ae : AE) : Prop := ∀ (B0 H0 : Hp) (T : List (V × TV)) (ss : List SV) (σ : L2.St) (H : Hp) (P : TV → Prop) (Xe : XP) (Q : VK), Rep K B0 H0 T ss σ H → ae ss P Xe →
  (∀ v r H', P r → Rep K B0 H0 ((v, r) :: T) ss σ H' → Q v H') → (∀ c H', Xe c → Rep K B0 H0 T ss σ H' → W c none σ H') → te σ H Q
def SndR (te : TE) (ar : AR) : Prop := ∀ (B0 H0 : Hp) (T : List (V × TV)) (ss : List SV) (σ : L2.St) (H : Hp) (P : RV → Prop) (Xe : XP) (Q : VK), Rep K B0 H0 T ss σ H → ar ss P Xe →
  (∀ v r H', P r → RepR K B0 H0 T ss σ H' v r → Q v H') → (∀ c H', Xe c → Rep K B0 H0 T ss σ H' → W c none σ H') → te σ H Q
def SndT (tt : TT) (at_ : AT) : Prop := ∀ (B0 H0 : Hp) (T : List (V × TV)) (ss : List SV) (σ : L2.St) (H : Hp) (P : Bool → Prop) (Xe : XP) (Q : Bool → Hp → Prop), Rep K B0 H0 T ss σ H → at_ ss P Xe →
  (∀ b H', P b → Rep K B0 H0 T ss σ H' → Q b H') → (∀ c H', Xe c → Rep K B0 H0 T ss σ H' → W c none σ H') → tt σ H Q
def SndA (ta : TA) (aa : AA) : Prop := ∀ (B0 H0 : Hp) (T : List (V × TV)) (ss : List SV) (σ : L2.St) (H : Hp) (P : List TV → Prop) (Xe : XP) (Q : List V → Hp → Prop), Rep K B0 H0 T ss σ H → aa ss P Xe →
  (∀ vs rs H', P rs → vs.length = rs.length → Rep K B0 H0 (vs.zip rs ++ T) ss σ H' → Q vs H') → (∀ c H', Xe c → Rep K B0 H0 T ss σ H' → W c none σ H') → ta σ H Q
def SndO (to : TO) (ao : AO) : Prop := ∀ (B0 H0 : Hp) (T : List (V × TV)) (ss : List SV) (σ : L2.St) (H : Hp) (P : Option Int → Prop) (Xe : XP) (Q : Option Int → Hp → Prop), Rep K B0 H0 T ss σ H → ao ss P Xe →
  (∀ o H', P o → Rep K B0 H0 T ss σ H' → Q o H') → (∀ c H', Xe c → Rep K B0 H0 T ss σ H' → W c none σ H') → to σ H Q
end
structure QE (X : Cx) (W : WX) (e : Expr) (ae : AE) : Prop where
  ex : ∃ te, PE X e te ∧ Snd X.K W te ae
structure QR (X : Cx) (W : WX) (e : Expr) (ar : AR) : Prop where
  ex : ∃ te, PE X e te ∧ SndR X.K W te ar
structure QT (X : Cx) (W : WX) (e : Expr) (at_ : AT) : Prop where
  ex : ∃ tt, PT X e tt ∧ SndT X.K W tt at_
structure QA (X : Cx) (W : WX) (es : List Expr) (aa : AA) : Prop where
  ex : ∃ ta, PA X es ta ∧ SndA X.K W ta aa
structure QO (X : Cx) (W : WX) (e : Option Expr) (ao : AO) : Prop where
  ex : ∃ to, PO X e to ∧ SndO X.K W to ao

/-! ### abstract readings -/
def look (ss : List SV) : TV → Option PyData
  | .dat d => some d
  | .ali i => match ss[i]? with
    | some (.lst xs) => some (.list xs)
    | _ => none
def on1 (x : Option PyData) (k : PyData → Prop) : Prop := match x with
  | some a => k a
  | _ => False
def on2 (x y : Option PyData) (k : PyData → PyData → Prop) : Prop := match x, y with
  | some a, some b => k a b
  | _, _ => False
def lookAll (ss : List SV) : List TV → Option (List PyData)
  | [] => some []
  | t :: r => match look ss t, lookAll ss r with
    | some d, some ds => some (d :: ds)
    | _, _ => none
def datAll : List TV → Option (List PyData)
  | [] => some []
  | .dat d :: r => match datAll r with
    | some ds => some (d :: ds)
    | _ => none
  | .ali _ :: _ => none
def aVar (i : Nat) : AE := fun ss P _ => match ss[i]? with
  | some (.val d) => P (.dat d)
  | some (.lst _) => P (.ali i)
  | some (.drw _) => P (.ali i)
  | _ => False
def aC (d : PyData) : AE := fun _ P _ => P (.dat d)
/-- a fresh list is a value | a value that is no alias -/
def frz (ar : AR) : AE := fun ss P X => ar ss (fun r => match r with
  | .dat d => P (.dat d)
  | .new xs => P (.dat (.list xs))
  | .drw => False) X
def frzR (ar : AR) : AR := fun ss P X => ar ss (fun r => match r with
  | .dat d => P (.dat d)
  | .new xs => P (.dat (.list xs))
  | .drw => P .drw) X
def toR (ae : AE) : AR := fun ss P X => ae ss (fun t => match t with
  | .dat d => P (.dat d)
  | .ali _ => False) X
def aOp2 (f : PyData → PyData → (RV → Prop) → Prop) (a b : AE) : AR := fun ss P X => a ss (fun x => b ss (fun y => on2 (look ss x) (look ss y) fun dx dy => f dx dy P) X) X
def aUn (f : PyData → (RV → Prop) → Prop) (a : AE) : AR := fun ss P X => a ss (fun x => on1 (look ss x) fun dx => f dx P) X
def aNil : AA := fun _ P _ => P []
def aCons (a : AE) (r : AA) : AA := fun ss P X => a ss (fun x => r ss (fun xs => P (x :: xs)) X) X
def aCB (f : List PyData → (RV → Prop) → Prop) (aa : AA) : AR := fun ss P X => aa ss (fun rs => match lookAll ss rs with
  | some ds => f ds P
  | none => False) X
def aTB (ar : AR) : AT := fun ss P X => ar ss (fun r => match r with
  | .dat (.bool b) => P b
  | _ => False) X
def truD : PyData → Bool
  | .none => false
  | .bool b => b
  | .int i => i != 0
  | .str s => (s.length : Int) != 0
  | .list xs => !xs.isEmpty
  | .tuple xs => !xs.isEmpty
  | .dict _ => false
def truOk : PyData → Prop
  | .str s => s.length ≤ 100000
  | .dict _ => False
  | _ => True
def aTru (ae : AE) : AT := fun ss P X => ae ss (fun t => on1 (look ss t) fun d => truOk d ∧ P (truD d)) X
def aNotT (t : AT) : AT := fun ss P X => t ss (fun b => P (!b)) X
def aAndT (t u : AT) : AT := fun ss P X => t ss (fun b => if b = true then u ss P X else P false) X
def aOrT (t u : AT) : AT := fun ss P X => t ss (fun b => if b = true then P true else u ss P X) X
def aAndV (t : AR) (u : AR) : AR := fun ss P X => t ss (fun r => match r with
  | .dat (.bool b) => if b = true then u ss P X else P (.dat (.bool false))
  | _ => False) X
def aOrV (t : AR) (u : AR) : AR := fun ss P X => t ss (fun r => match r with
  | .dat (.bool b) => if b = true then P (.dat (.bool true)) else u ss P X
  | _ => False) X
def aNotV (t : AR) : AR := fun ss P X => t ss (fun r => match r with
  | .dat (.bool b) => P (.dat (.bool (!b)))
  | _ => False) X
def aIf (t : AT) (a b : AR) : AR := fun ss P X => t ss (fun c => if c = true then a ss P X else b ss P X) X
def aChain (f g : PyData → PyData → (RV → Prop) → Prop) (a b c : AE) : AR := fun ss P X => a ss (fun x => b ss (fun y => on2 (look ss x) (look ss y) fun dx dy => f dx dy fun r => match r with
  | .dat (.bool k) => if k = true then c ss (fun z => on2 (look ss y) (look ss z) fun dy dz => g dy dz P) X else P (.dat (.bool false))
  | _ => False) X) X
def aNoPart : AO := fun _ P _ => P none
def aPart (ae : AE) : AO := fun ss P X => ae ss (fun t => match t with
  | .dat (.int i) => P (some i)
  | _ => False) X
def aSl (f : PyData → Option Int → Option Int → (RV → Prop) → Prop) (a : AE) (lo hi : AO) : AR := fun ss P X => a ss (fun x => lo ss (fun l => hi ss (fun h => on1 (look ss x) fun d => f d l h P) X) X) X
def aTup (aa : AA) : AR := fun ss P X => aa ss (fun rs => match datAll rs with
  | some ds => ds.length ≤ 100000 ∧ P (.dat (.tuple ds))
  | none => False) X
def aLst (aa : AA) : AR := fun ss P X => aa ss (fun rs => match datAll rs with
  | some ds => ds.length ≤ 100000 ∧ P (.new ds)
  | none => False) X

/-! ### operands -/
def Opd (K : PySem.W.Frag) (B H : Hp) (v : V) (d : PyData) : Prop := Dq K B v d ∨ ∃ l vs xs, v = .ref l ∧ d = .list xs ∧ H l = some (.lst vs) ∧ DqAll K B vs xs
inductive OpdAll (K : PySem.W.Frag) (B H : Hp) : List V → List PyData → Prop
  | nil : OpdAll K B H [] []
  | cons {v : V} {vs : List V} {d : PyData} {ds : List PyData} : Opd K B H v d → OpdAll K B H vs ds → OpdAll K B H (v :: vs) (d :: ds)
section
variable {K : PySem.W.Frag} {W : WX} {B0 H0 B H B' H' : Hp} {T : List (V × TV)} {ss : List SV} {σ : L2.St} {v : V} {d : PyData} {t : TV}
theorem RepB.opd (R : RepB K B0 H0 B H T ss σ) (h : TOk K B σ v t) (e : look ss t = some d) : Opd K B H v d := by
  cases t with
  | dat d' =>
    cases e
    exact .inl h
  | ali i =>
    unfold look at e
    dsimp only at e
    split at e
    · rename_i xs hs
      cases e
      obtain ⟨o, eo, l, vs, rfl, h0, h1, h2, h3⟩ := R.sl i _ hs
      have h : σ[i]? = some (some v) := h
      rw [h] at eo
      cases eo
      exact .inr ⟨l, vs, xs, rfl, rfl, h2, h3⟩
    · cases e
theorem RepB.opd1 {p : V × TV} (R : RepB K B0 H0 B H (p :: T) ss σ) (e : look ss p.2 = some d) : Opd K B H p.1 d := R.opd (R.t p List.mem_cons_self) e
theorem RepB.opd2 {p q : V × TV} (R : RepB K B0 H0 B H (q :: p :: T) ss σ) (e : look ss p.2 = some d) : Opd K B H p.1 d := R.opd (R.t p (List.mem_cons_of_mem _ List.mem_cons_self)) e
theorem on1_some {x : Option PyData} {k : PyData → Prop} (h : on1 x k) : ∃ a, x = some a ∧ k a := by
  cases x with
  | none => exact h.elim
  | some a => exact ⟨a, rfl, h⟩
theorem on2_some {x y : Option PyData} {k : PyData → PyData → Prop} (h : on2 x y k) : ∃ a b, x = some a ∧ y = some b ∧ k a b := by
  cases x with
  | none => exact h.elim
  | some a => cases y with
    | none => exact h.elim
    | some b => exact ⟨a, b, rfl, rfl, h⟩
theorem opd_list {v : V} {xs : List PyData} (i : Same B H) (h : Opd K B H v (.list xs)) : ∃ a vs, v = .ref a ∧ H a = some (.lst vs) ∧ DqAll K B vs xs := by
  rcases h with h | ⟨l, vs, ys, rfl, e, h1, h2⟩
  · cases h with
    | lst hs ha => exact ⟨_, _, rfl, i _ _ hs, ha⟩
  · cases e
    exact ⟨l, vs, rfl, h1, h2⟩
theorem opd_tup {v : V} {xs : List PyData} (i : Same B H) (h : Opd K B H v (.tuple xs)) : ∃ a vs, v = .ref a ∧ SqT K H a vs ∧ DqAll K B vs xs := by
  rcases h with h | ⟨l, vs, ys, rfl, e, h1, h2⟩
  · cases h with
    | tup hs ha => exact ⟨_, _, rfl, same_t i hs, ha⟩
  · cases e
theorem opd_int {v : V} {n : Int} (h : Opd K B H v (.int n)) : v = .int n := by
  rcases h with h | ⟨l, vs, ys, rfl, e, h1, h2⟩
  · cases h
    rfl
  · cases e
theorem opd_bool {v : V} {n : Bool} (h : Opd K B H v (.bool n)) : v = .bl n := by
  rcases h with h | ⟨l, vs, ys, rfl, e, h1, h2⟩
  · cases h
    rfl
  · cases e
theorem opd_str {v : V} {n : Str} (h : Opd K B H v (.str n)) : v = .str n := by
  rcases h with h | ⟨l, vs, ys, rfl, e, h1, h2⟩
  · cases h
    rfl
  · cases e
theorem opd_none {v : V} (h : Opd K B H v .none) : v = .non := by
  rcases h with h | ⟨l, vs, ys, rfl, e, h1, h2⟩
  · cases h
    rfl
  · cases e
theorem opd_dp (i : Same B H) (h : Opd K B H v d) : Dq K H v d := by
  rcases h with h | ⟨l, vs, xs, rfl, rfl, h1, h2⟩
  · exact dp_mono i _ _ h
  · exact .lst h1 (dpAll_mono i _ _ h2)
theorem lookAll_opd (R : RepB K B0 H0 B H T ss σ) : ∀ {rs : List TV} {vs : List V} {ds : List PyData}, (∀ p ∈ vs.zip rs, TOk K B σ p.1 p.2) → vs.length = rs.length → lookAll ss rs = some ds → OpdAll K B H vs ds
  | [], [], ds, _, _, e => by
    cases e
    exact .nil
  | [], v :: vs, _, _, hl, _ => by cases hl
  | t :: rs, [], _, _, hl, _ => by cases hl
  | t :: rs, v :: vs, ds, h, hl, e => by
    unfold lookAll at e
    split at e
    · rename_i d ds' e1 e2
      cases e
      exact .cons (R.opd (h (v, t) List.mem_cons_self) e1) (lookAll_opd R (fun p hp => h p (List.mem_cons_of_mem _ hp)) (Nat.succ.inj hl) e2)
    · cases e
theorem datAll_dp {B : Hp} : ∀ {rs : List TV} {vs : List V} {ds : List PyData}, (∀ p ∈ vs.zip rs, TOk K B σ p.1 p.2) → vs.length = rs.length → datAll rs = some ds → DqAll K B vs ds
  | [], [], ds, _, _, e => by
    cases e
    exact .nil
  | [], v :: vs, _, _, hl, _ => by cases hl
  | t :: rs, [], _, _, hl, _ => by cases hl
  | .ali i :: rs, v :: vs, ds, h, hl, e => by cases e
  | .dat d :: rs, v :: vs, ds, h, hl, e => by
    unfold datAll at e
    split at e
    · rename_i ds' e2
      cases e
      exact .cons (h (v, .dat d) List.mem_cons_self) (datAll_dp (fun p hp => h p (List.mem_cons_of_mem _ hp)) (Nat.succ.inj hl) e2)
    · cases e

/-! ### operations -/
variable (K)
def OpS (r : R2) (f : PyData → PyData → (RV → Prop) → Prop) : Prop := ∀ (B H : Hp) (x y : V) (dx dy : PyData) (k : RV → Prop) (Q : VK), Same B H → Opd K B H x dx → Opd K B H y dy → f dx dy k →
  (∀ z rv B' H', k rv → Grow B H B' H' → RepV K H B' H' z rv → Q z H') → r x y H Q
def UnS (r : V → Hp → VK → Prop) (f : PyData → (RV → Prop) → Prop) : Prop := ∀ (B H : Hp) (x : V) (dx : PyData) (k : RV → Prop) (Q : VK), Same B H → Opd K B H x dx → f dx k →
  (∀ z rv B' H', k rv → Grow B H B' H' → RepV K H B' H' z rv → Q z H') → r x H Q
def BS (r : List V → Hp → VK → Prop) (f : List PyData → (RV → Prop) → Prop) : Prop := ∀ (B H : Hp) (xs : List V) (ds : List PyData) (k : RV → Prop) (Q : VK), Same B H → OpdAll K B H xs ds → f ds k →
  (∀ z rv B' H', k rv → Grow B H B' H' → RepV K H B' H' z rv → Q z H') → r xs H Q
def SlS (r : V → Option Int → Option Int → Hp → VK → Prop) (f : PyData → Option Int → Option Int → (RV → Prop) → Prop) : Prop := ∀ (B H : Hp) (x : V) (dx : PyData) (lo hi : Option Int) (k : RV → Prop) (Q : VK), Same B H → Opd K B H x dx → f dx lo hi k →
  (∀ z rv B' H', k rv → Grow B H B' H' → RepV K H B' H' z rv → Q z H') → r x lo hi H Q
variable {K}
/-- nothing new -/
theorem dat_same {z : V} {d : PyData} {k : RV → Prop} {Q : VK} (i : Same B H) (q : k (.dat d)) (h : Dq K B z d) (qq : ∀ z rv B' H', k rv → Grow B H B' H' → RepV K H B' H' z rv → Q z H') : Q z H := qq z (.dat d) B H q (Grow.refl i) h
/-- a new tuple | a new list -/
theorem dat_tup {vs : List V} {ds : List PyData} {k : RV → Prop} {Q : VK} (i : Same B H) (q : k (.dat (.tuple ds))) (h : DqAll K B vs ds) (qq : ∀ z rv B' H', k rv → Grow B H B' H' → RepV K H B' H' z rv → Q z H') {p : Addr} (np : H p = none) : Q (.ref p) (upd H p (.tup vs)) :=
  qq _ (.dat (.tuple ds)) (upd B p (.tup vs)) _ q (Grow.new i np) (.tup (sqt_of upd_same) (dpAll_mono (same_new (Same.free i np)) _ _ h))
theorem dat_lst {vs : List V} {ds : List PyData} {k : RV → Prop} {Q : VK} (i : Same B H) (q : k (.new ds)) (h : DqAll K B vs ds) (qq : ∀ z rv B' H', k rv → Grow B H B' H' → RepV K H B' H' z rv → Q z H') {p : Addr} (np : H p = none) : Q (.ref p) (upd H p (.lst vs)) :=
  qq _ (.new ds) B _ q (Grow.own i np) ⟨p, vs, rfl, np, Same.free i np, upd_same, h⟩
end

/-! ### soundness -/
section
variable {K : PySem.W.Frag} {W : WX} {te ta tb tc : TE} {a b c ae : AE} {ar ar' : AR} {t u : TT} {at_ au : AT} {r r' : R2} {f g : PyData → PyData → (RV → Prop) → Prop}
theorem snd_var {i : Nat} : Snd K W (tVar i) (aVar i) := by
  intro B0 H0 T ss σ H P Xe Q R h q _
  obtain ⟨B, R⟩ := R
  unfold aVar at h
  split at h
  · rename_i d e
    obtain ⟨o, eo, v, rfl, hd⟩ := R.sl i _ e
    exact ⟨v, eo, q v _ H h ⟨B, R.push hd⟩⟩
  · rename_i xs e
    obtain ⟨o, eo, l, vs, rfl, _⟩ := R.sl i _ e
    exact ⟨_, eo, q _ _ H h ⟨B, R.push eo⟩⟩
  · rename_i l e
    obtain ⟨o, eo, rfl, _⟩ := R.sl i _ e
    exact ⟨_, eo, q _ _ H h ⟨B, R.push eo⟩⟩
  · exact h.elim
theorem snd_c {v : V} {d : PyData} (h : ∀ H, Dq K H v d) : Snd K W (tC v) (aC d) := by
  intro B0 H0 T ss σ H P Xe Q R hp q _
  obtain ⟨B, R⟩ := R
  exact q v _ H hp ⟨B, R.push (h B)⟩
theorem snd_frz (h : SndR K W te ar) : Snd K W te (frz ar) := by
  intro B0 H0 T ss σ H P Xe Q R hp q x
  refine h B0 H0 T ss σ H _ Xe Q R hp (fun v r H' hr RR => ?_) x
  cases r with
  | dat d => exact q v _ H' hr (repR_dat RR)
  | new xs => exact q v _ H' hr (repR_dat (repR_frz RR))
  | drw => exact (show False from hr).elim
theorem snd_frzR (h : SndR K W te ar) : SndR K W te (frzR ar) := by
  intro B0 H0 T ss σ H P Xe Q R hp q x
  refine h B0 H0 T ss σ H _ Xe Q R hp (fun v r H' hr RR => ?_) x
  cases r with
  | dat d => exact q v _ H' hr RR
  | new xs => exact q v _ H' hr (repR_frz RR)
  | drw => exact q v _ H' hr RR
theorem snd_toR (h : Snd K W te ae) : SndR K W te (toR ae) := by
  intro B0 H0 T ss σ H P Xe Q R hp q x
  refine h B0 H0 T ss σ H _ Xe Q R hp (fun v r H' hr RR => ?_) x
  cases r with
  | dat d =>
    obtain ⟨B, RR⟩ := RR
    exact q v _ H' hr ⟨B, RR.sub fun _ h => List.mem_cons_of_mem _ h, RR.t _ List.mem_cons_self, .inl ⟨d, rfl⟩⟩
  | ali i => exact (show False from hr).elim
theorem snd_op (ha : Snd K W ta a) (hb : Snd K W tb b) (hr : OpS K r f) : SndR K W (tOp r ta tb) (aOp2 f a b) := by
  intro B0 H0 T ss σ H P Xe Q R hp q x
  refine ha B0 H0 T ss σ H _ Xe _ R hp (fun v1 t1 H1 h1 R1 => ?_) x
  refine hb B0 H0 _ ss σ H1 _ Xe _ R1 h1 (fun v2 t2 H2 h2 R2 => ?_) fun c H' hx R' => x c H' hx R'.tl
  obtain ⟨dx, dy, e1, e2, h⟩ := on2_some h2
  obtain ⟨B, R2⟩ := R2
  have R3 := R2.sub (T' := T) fun _ h => List.mem_cons_of_mem _ (List.mem_cons_of_mem _ h)
  exact hr B H2 v1 v2 dx dy P Q R2.g.i (R2.opd2 e1) (R2.opd1 e2) h fun z rv B' H' k1 gr rz => q z rv H' k1 (repR_of R3 gr rz)
theorem snd_un {r : V → Hp → VK → Prop} {f : PyData → (RV → Prop) → Prop} (ha : Snd K W ta a) (hr : UnS K r f) : SndR K W (tUn r ta) (aUn f a) := by
  intro B0 H0 T ss σ H P Xe Q R hp q x
  refine ha B0 H0 T ss σ H _ Xe _ R hp (fun v1 t1 H1 h1 R1 => ?_) x
  obtain ⟨dx, e1, h⟩ := on1_some h1
  obtain ⟨B, R1⟩ := R1
  exact hr B H1 v1 dx P Q R1.g.i (R1.opd1 e1) h fun z rv B' H' k1 gr rz => q z rv H' k1 (repR_of (R1.sub fun _ h => List.mem_cons_of_mem _ h) gr rz)
theorem snd_nil : SndA K W tNil aNil := by
  intro B0 H0 T ss σ H P Xe Q R hp q x
  exact q [] [] H hp rfl R
theorem snd_cons {tr : TA} {as : AA} (ha : Snd K W ta a) (hr : SndA K W tr as) : SndA K W (tCons ta tr) (aCons a as) := by
  intro B0 H0 T ss σ H P Xe Q R hp q x
  refine ha B0 H0 T ss σ H _ Xe _ R hp (fun v1 t1 H1 h1 R1 => ?_) x
  refine hr B0 H0 _ ss σ H1 _ Xe _ R1 h1 (fun vs rs H2 h2 hl R2 => ?_) fun c H' hx R' => x c H' hx R'.tl
  refine q (v1 :: vs) (t1 :: rs) H2 h2 (by rw [List.length_cons, List.length_cons, hl]) (R2.sub fun p hp => ?_)
  rw [List.zip_cons_cons, List.cons_append] at hp
  rcases List.mem_cons.mp hp with rfl | hp
  · exact List.mem_append_right _ List.mem_cons_self
  · rcases List.mem_append.mp hp with hp | hp
    · exact List.mem_append_left _ hp
    · exact List.mem_append_right _ (List.mem_cons_of_mem _ hp)
theorem snd_cb {tr : TA} {as : AA} {r : List V → Hp → VK → Prop} {f : List PyData → (RV → Prop) → Prop} (ha : SndA K W tr as) (hr : BS K r f) : SndR K W (tCB r tr) (aCB f as) := by
  intro B0 H0 T ss σ H P Xe Q R hp q x
  refine ha B0 H0 T ss σ H _ Xe _ R hp (fun vs rs H1 h1 hl R1 => ?_) x
  obtain ⟨B, R1⟩ := R1
  split at h1
  · rename_i ds e
    exact hr B H1 vs ds P Q R1.g.i (lookAll_opd R1 (fun p hp => R1.t p (List.mem_append_left _ hp)) hl e) h1 fun z rv B' H' k1 gr rz => q z rv H' k1 (repR_of (R1.sub fun _ h => List.mem_append_right _ h) gr rz)
  · exact h1.elim
theorem snd_tb (h : SndR K W te ar) : SndT K W (tB te) (aTB ar) := by
  intro B0 H0 T ss σ H P Xe Q R hp q x
  refine h B0 H0 T ss σ H _ Xe _ R hp (fun v r H' hr RR => ?_) x
  cases r with
  | dat d =>
    obtain ⟨B, RR, hv, _⟩ := RR
    cases d with
    | bool k =>
      have hv : Dq K B v (.bool k) := hv
      cases hv
      exact ⟨k, rfl, q k H' hr ⟨B, RR⟩⟩
    | _ => exact (show False from hr).elim
  | _ => exact (show False from hr).elim
theorem snd_test (h : SndR K W te ar) : SndT K W (tTest te) (aTB ar) := snd_tb h
theorem snd_tru (h : Snd K W te ae) : SndT K W (fun σ H Q => te σ H fun x H' => ∃ k, TruV K x H' k ∧ Q k H') (aTru ae) := by
  intro B0 H0 T ss σ H P Xe Q R hp q x
  refine h B0 H0 T ss σ H _ Xe _ R hp (fun v r H' hr RR => ?_) x
  obtain ⟨d, e, ok, hP⟩ := on1_some hr
  obtain ⟨B, RR⟩ := RR
  have od : Opd K B H' v d := RR.opd1 e
  refine ⟨truD d, ?_, q _ H' hP ⟨B, RR.sub fun _ h => List.mem_cons_of_mem _ h⟩⟩
  cases d with
  | none =>
    rw [opd_none od] <;> rfl
  | bool k =>
    rw [opd_bool od] <;> rfl
  | int i =>
    rw [opd_int od] <;> rfl
  | str s =>
    rw [opd_str od]
    exact ⟨Nat.le_trans ok (by decide), rfl⟩
  | list xs =>
    obtain ⟨p, vs, rfl, hs, ha⟩ := opd_list RR.g.i od
    refine .inl ⟨vs, sql_of hs, ?_⟩
    show (!xs.isEmpty) = !vs.isEmpty
    cases ha <;> rfl
  | tuple xs =>
    obtain ⟨p, vs, rfl, hs, ha⟩ := opd_tup RR.g.i od
    refine .inr (.inl ⟨vs, hs, ?_⟩)
    show (!xs.isEmpty) = !vs.isEmpty
    cases ha <;> rfl
  | dict _ => exact ok.elim
theorem snd_notT (h : SndT K W t at_) : SndT K W (tNot t) (aNotT at_) := by
  intro B0 H0 T ss σ H P Xe Q R hp q x
  exact h B0 H0 T ss σ H _ Xe _ R hp (fun b H' hb R' => q _ H' hb R') x
theorem snd_andT (h : SndT K W t at_) (h2 : SndT K W u au) : SndT K W (tAnd t u) (aAndT at_ au) := by
  intro B0 H0 T ss σ H P Xe Q R hp q x
  refine h B0 H0 T ss σ H _ Xe _ R hp (fun b H' hb R' => ?_) x
  cases b with
  | true => exact iteT (h2 B0 H0 T ss σ H' P Xe Q R' (by simpa using hb) q x)
  | false => exact iteF (q _ H' (by simpa using hb) R')
theorem snd_orT (h : SndT K W t at_) (h2 : SndT K W u au) : SndT K W (tOr t u) (aOrT at_ au) := by
  intro B0 H0 T ss σ H P Xe Q R hp q x
  refine h B0 H0 T ss σ H _ Xe _ R hp (fun b H' hb R' => ?_) x
  cases b with
  | false => exact iteF (h2 B0 H0 T ss σ H' P Xe Q R' (by simpa using hb) q x)
  | true => exact iteT (q _ H' (by simpa using hb) R')
theorem repR_bool {B0 H0 H : Hp} {T : List (V × TV)} {ss : List SV} {σ : L2.St} {v : V} {k : Bool} (RR : RepR K B0 H0 T ss σ H v (.dat (.bool k))) : v = .bl k ∧ Rep K B0 H0 T ss σ H := by
  obtain ⟨B, RR, hv, _⟩ := RR
  have hv : Dq K B v (.bool k) := hv
  cases hv
  exact ⟨rfl, B, RR⟩
theorem repR_mkB {B0 H0 H : Hp} {T : List (V × TV)} {ss : List SV} {σ : L2.St} (k : Bool) (RR : Rep K B0 H0 T ss σ H) : RepR K B0 H0 T ss σ H (.bl k) (.dat (.bool k)) := by
  obtain ⟨B, RR⟩ := RR
  exact ⟨B, RR, .bl k, .inl ⟨_, rfl⟩⟩
theorem bool_cases {k : Bool → Prop} {r : RV} (h : match r with
  | .dat (.bool b) => k b
  | _ => False) : ∃ b, r = .dat (.bool b) ∧ k b := by
  cases r with
  | dat d => cases d with
    | bool b => exact ⟨b, rfl, h⟩
    | _ => exact (show False from h).elim
  | _ => exact (show False from h).elim
theorem snd_andV (h : SndR K W ta ar) (h2 : SndR K W tb ar') : SndR K W (tAndV ta tb) (aAndV ar ar') := by
  intro B0 H0 T ss σ H P Xe Q R hp q x
  refine h B0 H0 T ss σ H _ Xe _ R hp (fun v r H' hr RR => ?_) x
  obtain ⟨b, rfl, hb⟩ := bool_cases (k := fun b => if b = true then ar' ss P Xe else P (.dat (.bool false))) hr
  obtain ⟨rfl, R'⟩ := repR_bool RR
  refine ⟨b, rfl, ?_⟩
  cases b with
  | true => exact iteT (h2 B0 H0 T ss σ H' P Xe Q R' (by simpa using hb) q x)
  | false => exact iteF (q _ _ H' (by simpa using hb) (repR_mkB false R'))
theorem snd_orV (h : SndR K W ta ar) (h2 : SndR K W tb ar') : SndR K W (tOrV ta tb) (aOrV ar ar') := by
  intro B0 H0 T ss σ H P Xe Q R hp q x
  refine h B0 H0 T ss σ H _ Xe _ R hp (fun v r H' hr RR => ?_) x
  obtain ⟨b, rfl, hb⟩ := bool_cases (k := fun b => if b = true then P (.dat (.bool true)) else ar' ss P Xe) hr
  obtain ⟨rfl, R'⟩ := repR_bool RR
  refine ⟨b, rfl, ?_⟩
  cases b with
  | false => exact iteF (h2 B0 H0 T ss σ H' P Xe Q R' (by simpa using hb) q x)
  | true => exact iteT (q _ _ H' (by simpa using hb) (repR_mkB true R'))
theorem snd_notV (h : SndR K W ta ar) : SndR K W (tNotV ta) (aNotV ar) := by
  intro B0 H0 T ss σ H P Xe Q R hp q x
  refine h B0 H0 T ss σ H _ Xe _ R hp (fun v r H' hr RR => ?_) x
  obtain ⟨b, rfl, hb⟩ := bool_cases (k := fun b => P (.dat (.bool (!b)))) hr
  obtain ⟨rfl, R'⟩ := repR_bool RR
  exact ⟨b, rfl, q _ _ H' hb (repR_mkB _ R')⟩
theorem snd_if (h : SndT K W t at_) (ha : SndR K W ta ar) (hb : SndR K W tb ar') : SndR K W (tIf t ta tb) (aIf at_ ar ar') := by
  intro B0 H0 T ss σ H P Xe Q R hp q x
  refine h B0 H0 T ss σ H _ Xe _ R hp (fun b H' hb' R' => ?_) x
  cases b with
  | true => exact iteT (ha B0 H0 T ss σ H' P Xe Q R' (by simpa using hb') q x)
  | false => exact iteF (hb B0 H0 T ss σ H' P Xe Q R' (by simpa using hb') q x)
theorem snd_chain (ha : Snd K W ta a) (hb : Snd K W tb b) (hc : Snd K W tc c) (hr : OpS K r f) (hr' : OpS K r' g) : SndR K W (tChain r r' ta tb tc) (aChain f g a b c) := by
  intro B0 H0 T ss σ H P Xe Q R hp q x
  refine ha B0 H0 T ss σ H _ Xe _ R hp (fun v1 t1 H1 h1 R1 => ?_) x
  refine hb B0 H0 _ ss σ H1 _ Xe _ R1 h1 (fun v2 t2 H2 h2 R2 => ?_) fun c H' hx R' => x c H' hx R'.tl
  obtain ⟨dx, dy, e1, e2, h⟩ := on2_some h2
  obtain ⟨B, R2⟩ := R2
  refine hr B H2 v1 v2 dx dy _ _ R2.g.i (R2.opd2 e1) (R2.opd1 e2) h fun z rv B' H' k1 gr rz => ?_
  obtain ⟨k, rfl, hk⟩ := bool_cases (k := fun k => if k = true then c ss (fun z => on2 (look ss t2) (look ss z) fun dy dz => g dy dz P) Xe else P (.dat (.bool false))) k1
  have rz : Dq K B' z (.bool k) := rz
  cases rz
  have R3 := R2.grow gr
  refine ⟨k, rfl, ?_⟩
  cases k with
  | false => exact iteF (q _ _ H' (by simpa using hk) (repR_mkB false ⟨B', R3.sub fun _ h => List.mem_cons_of_mem _ (List.mem_cons_of_mem _ h)⟩))
  | true =>
    refine iteT (hc B0 H0 _ ss σ H' _ Xe _ ⟨B', R3⟩ (by simpa using hk) (fun v3 t3 H3 h3 R4 => ?_) fun c H' hx R' => x c H' hx R'.tl.tl)
    obtain ⟨dy', dz, e3, e4, h'⟩ := on2_some h3
    obtain ⟨B4, R4⟩ := R4
    refine hr' B4 H3 v2 v3 dy' dz P Q R4.g.i (R4.opd2 e3) (R4.opd1 e4) h' fun z rv B' H' k1 gr rz => q z rv H' k1 (repR_of (R4.sub fun _ h => List.mem_cons_of_mem _ (List.mem_cons_of_mem _ (List.mem_cons_of_mem _ h))) gr rz)
theorem snd_noPart : SndO K W tNoPart aNoPart := by
  intro B0 H0 T ss σ H P Xe Q R hp q x
  exact q _ H hp R
theorem snd_part (ha : Snd K W ta a) : SndO K W (tPart ta) (aPart a) := by
  intro B0 H0 T ss σ H P Xe Q R hp q x
  refine ha B0 H0 T ss σ H _ Xe _ R hp (fun v1 t1 H1 h1 R1 => ?_) x
  cases t1 with
  | ali i => exact (show False from h1).elim
  | dat d => cases d with
    | int i =>
      obtain ⟨B, R1⟩ := R1
      have hv : Dq K B v1 (.int i) := R1.t _ List.mem_cons_self
      cases hv
      exact ⟨i, rfl, q _ H1 h1 ⟨B, R1.sub fun _ h => List.mem_cons_of_mem _ h⟩⟩
    | _ => exact (show False from h1).elim
theorem snd_sl {lo hi : TO} {al ah : AO} {r : V → Option Int → Option Int → Hp → VK → Prop} {f : PyData → Option Int → Option Int → (RV → Prop) → Prop} (ha : Snd K W ta a) (hl : SndO K W lo al) (hh : SndO K W hi ah) (hr : SlS K r f) : SndR K W (tSl r ta lo hi) (aSl f a al ah) := by
  intro B0 H0 T ss σ H P Xe Q R hp q x
  refine ha B0 H0 T ss σ H _ Xe _ R hp (fun v1 t1 H1 h1 R1 => ?_) x
  refine hl B0 H0 _ ss σ H1 _ Xe _ R1 h1 (fun o1 H2 h2 R2 => ?_) fun c H' hx R' => x c H' hx R'.tl
  refine hh B0 H0 _ ss σ H2 _ Xe _ R2 h2 (fun o2 H3 h3 R3 => ?_) fun c H' hx R' => x c H' hx R'.tl
  obtain ⟨dx, e1, h⟩ := on1_some h3
  obtain ⟨B, R3⟩ := R3
  exact hr B H3 v1 dx o1 o2 P Q R3.g.i (R3.opd1 e1) h fun z rv B' H' k1 gr rz => q z rv H' k1 (repR_of (R3.sub fun _ h => List.mem_cons_of_mem _ h) gr rz)
theorem sz5 {n : Nat} (h : n ≤ 100000) : n ≤ sizeLine := Nat.le_trans h (by decide)
theorem snd_tup {tr : TA} {as : AA} (ha : SndA K W tr as) : SndR K W (tTup tr) (aTup as) := by
  intro B0 H0 T ss σ H P Xe Q R hp q x
  refine ha B0 H0 T ss σ H _ Xe _ R hp (fun vs rs H1 h1 hl R1 => ?_) x
  obtain ⟨B, R1⟩ := R1
  split at h1
  · rename_i ds e
    have hd := datAll_dp (fun p hp => R1.t p (List.mem_append_left _ hp)) hl e
    refine ⟨by rw [dpAll_len hd]; exact sz5 h1.1, fun p np => ?_⟩
    exact dat_tup (k := P) R1.g.i h1.2 hd (fun z rv B' H' k1 gr rz => q z rv H' k1 (repR_of (R1.sub fun _ h => List.mem_append_right _ h) gr rz)) np
  · exact h1.elim
theorem snd_lst {tr : TA} {as : AA} (ha : SndA K W tr as) : SndR K W (tLst tr) (aLst as) := by
  intro B0 H0 T ss σ H P Xe Q R hp q x
  refine ha B0 H0 T ss σ H _ Xe _ R hp (fun vs rs H1 h1 hl R1 => ?_) x
  obtain ⟨B, R1⟩ := R1
  split at h1
  · rename_i ds e
    have hd := datAll_dp (fun p hp => R1.t p (List.mem_append_left _ hp)) hl e
    refine ⟨by rw [dpAll_len hd]; exact sz5 h1.1, fun p np => ?_⟩
    exact dat_lst (k := P) R1.g.i h1.2 hd (fun z rv B' H' k1 gr rz => q z rv H' k1 (repR_of (R1.sub fun _ h => List.mem_append_right _ h) gr rz)) np
  · exact h1.elim
end
end AB
namespace AB
open PySem PySem.Spec PyProof.Rows L2

/-! ### operations on data -/
def fAdd (x y : PyData) (k : RV → Prop) : Prop := match x, y with
  | .int i, .int j => k (.dat (.int (i + j)))
  | .str a, .str b => a.length + b.length ≤ 100000 ∧ k (.dat (.str (a ++ b)))
  | .tuple xs, .tuple ys => xs.length + ys.length ≤ 200000 ∧ k (.dat (.tuple (xs ++ ys)))
  | .list xs, .list ys => xs.length + ys.length ≤ 200000 ∧ k (.new (xs ++ ys))
  | _, _ => False
def fSub (x y : PyData) (k : RV → Prop) : Prop := match x, y with
  | .int i, .int j => k (.dat (.int (i - j)))
  | _, _ => False
def MOk (i j : Int) : Prop := CMul i j ∨ CMulX i j
def fMul (x y : PyData) (k : RV → Prop) : Prop := match x, y with
  | .int i, .int j => MOk i j ∧ k (.dat (.int (i * j)))
  | .list xs, .int n => xs.length * n.toNat ≤ 200000 ∧ n ≤ 1000000 ∧ -1000000 ≤ n ∧ k (.new (List.replicate n.toNat xs).flatten)
  | _, _ => False
def DOk (j : Int) : Prop := 0 < j ∧ j.natAbs.log2 < 9000
def fDiv (x y : PyData) (k : RV → Prop) : Prop := match x, y with
  | .int i, .int j => DOk j ∧ k (.dat (.int (i / j)))
  | _, _ => False
def fMod (x y : PyData) (k : RV → Prop) : Prop := match x, y with
  | .int i, .int j => 0 < j ∧ k (.dat (.int (i % j)))
  | _, _ => False
def fPow (x y : PyData) (k : RV → Prop) : Prop := match x, y with
  | .int i, .int j => CPow i j ∧ k (.dat (.int (i ^ j.toNat)))
  | _, _ => False
def fShl (x y : PyData) (k : RV → Prop) : Prop := match x, y with
  | .int i, .int j => CShl i j ∧ k (.dat (.int (i * 2 ^ j.toNat)))
  | _, _ => False
def fShr (x y : PyData) (k : RV → Prop) : Prop := match x, y with
  | .int i, .int j => 0 ≤ j ∧ k (.dat (.int (i / 2 ^ j.toNat)))
  | _, _ => False
/-- i & 1 -/
def fAnd1 (x y : PyData) (k : RV → Prop) : Prop := match x, y with
  | .int i, .int j => j = 1 ∧ k (.dat (.int (i % 2)))
  | _, _ => False
def fEq (x y : PyData) (k : RV → Prop) : Prop := SeqAt.shaped x = true ∧ SeqAt.shaped y = true ∧ k (.dat (.bool (PyData.eqv x y)))
def fNe (x y : PyData) (k : RV → Prop) : Prop := SeqAt.shaped x = true ∧ SeqAt.shaped y = true ∧ k (.dat (.bool (!PyData.eqv x y)))
def fCmp (p : Int → Int → Bool) (x y : PyData) (k : RV → Prop) : Prop := match x, y with
  | .int i, .int j => k (.dat (.bool (p i j)))
  | _, _ => False
abbrev fLt := fCmp fun i j => decide (i < j)
abbrev fLe := fCmp fun i j => decide (i ≤ j)
abbrev fGt := fCmp fun i j => decide (j < i)
abbrev fGe := fCmp fun i j => decide (j ≤ i)
def isNoneD : PyData → Bool
  | .none => true
  | _ => false
def fIs (x y : PyData) (k : RV → Prop) : Prop := match x, y with
  | .bool a, .bool b => k (.dat (.bool (decide (a = b))))
  | x, .none => k (.dat (.bool (isNoneD x)))
  | _, _ => False
def fIsNot (x y : PyData) (k : RV → Prop) : Prop := match x, y with
  | .bool a, .bool b => k (.dat (.bool (!decide (a = b))))
  | x, .none => k (.dat (.bool (!isNoneD x)))
  | _, _ => False
def fNeg (x : PyData) (k : RV → Prop) : Prop := match x with
  | .int i => k (.dat (.int (-i)))
  | _ => False
def fIx (x y : PyData) (k : RV → Prop) : Prop := match x, y with
  | .list xs, .int i => ∃ d, atI xs i = some d ∧ k (.dat d)
  | .tuple xs, .int i => ∃ d, atI xs i = some d ∧ k (.dat d)
  | .dict [(.none, .list xs)], .int i => ∃ d, atI xs i = some d ∧ k (.dat d)
  | .str z, .int i => z.length ≤ 100000 ∧ ∃ c, atI z.cps.toList i = some c ∧ k (.dat (.str ⟨#[c]⟩))
  | _, _ => False
def cutD (xs : List PyData) (lo hi : Option Int) : List PyData := (xs.drop (HT.sIx xs.length 0 lo)).take (HT.sIx xs.length xs.length hi - HT.sIx xs.length 0 lo)
def fSl (x : PyData) (lo hi : Option Int) (k : RV → Prop) : Prop := match x with
  | .list xs => k (.new (cutD xs lo hi))
  | .tuple xs => k (.dat (.tuple (cutD xs lo hi)))
  | _ => False
/-! ### built-ins on data -/
def fAbs (ds : List PyData) (k : RV → Prop) : Prop := match ds with
  | [.int i] => k (.dat (.int (if i < 0 then -i else i)))
  | _ => False
def fInt (ds : List PyData) (k : RV → Prop) : Prop := match ds with
  | [.int i] => k (.dat (.int i))
  | [.bool b] => k (.dat (.int (if b then 1 else 0)))
  | _ => False
def fMax2 (ds : List PyData) (k : RV → Prop) : Prop := match ds with
  | [.int i, .int j] => k (.dat (.int (if j > i then j else i)))
  | _ => False
def fMin2 (ds : List PyData) (k : RV → Prop) : Prop := match ds with
  | [.int i, .int j] => k (.dat (.int (if j < i then j else i)))
  | _ => False
def fLen (ds : List PyData) (k : RV → Prop) : Prop := match ds with
  | [.dict [(.none, .list xs)]] => k (.dat (.int xs.length))
  | [.list xs] => k (.dat (.int xs.length))
  | [.tuple xs] => k (.dat (.int xs.length))
  | [.str z] => z.length ≤ 100000 ∧ k (.dat (.int z.length))
  | _ => False
def fTupleOf (ds : List PyData) (k : RV → Prop) : Prop := match ds with
  | [.list xs] => k (.dat (.tuple xs))
  | [.tuple xs] => k (.dat (.tuple xs))
  | _ => False
def fListOf (ds : List PyData) (k : RV → Prop) : Prop := match ds with
  | [.list xs] => k (.new xs)
  | [.tuple xs] => k (.new xs)
  | _ => False
def fSum (ds : List PyData) (k : RV → Prop) : Prop := match ds with
  | [.list xs] => ∃ ns : List Int, xs = ns.map PyData.int ∧ k (.dat (.int ns.sum))
  | [.tuple xs] => ∃ ns : List Int, xs = ns.map PyData.int ∧ k (.dat (.int ns.sum))
  | _ => False

/-! ### soundness of operations -/
section
variable {K : PySem.W.Frag}
theorem os_int {r : R2} {g : Int → Int → V} {f : PyData → PyData → (RV → Prop) → Prop} (h : ∀ dx dy k, f dx dy k → ∃ i j d, dx = .int i ∧ dy = .int j ∧ k (.dat d) ∧ (∀ B, Dq K B (g i j) d) ∧ ∀ (H : Hp) (Q : VK), Q (g i j) H → r (.int i) (.int j) H Q) : OpS K r f := by
  intro B H x y dx dy k Q i ox oy hf q
  obtain ⟨a, b, d, rfl, rfl, hk, hd, hr⟩ := h dx dy k hf
  rw [opd_int ox, opd_int oy]
  exact hr H Q (dat_same (k := k) i hk (hd B) q)
theorem int2 {x y : PyData} {p : Int → Int → Prop} (h : match x, y with
  | .int i, .int j => p i j
  | _, _ => False) : ∃ i j, x = .int i ∧ y = .int j ∧ p i j := by
  cases x with
  | int i => cases y with
    | int j => exact ⟨i, j, rfl, rfl, h⟩
    | _ => exact (show False from h).elim
  | _ => cases y <;> exact (show False from h).elim
theorem os_sub : OpS K (rI0 fun i j => .int (i - j)) fSub := os_int fun dx dy k h => by
  obtain ⟨i, j, rfl, rfl, h⟩ := int2 (p := fun i j => k (.dat (.int (i - j)))) h
  exact ⟨i, j, _, rfl, rfl, h, fun B => .int _, fun H Q q => ⟨i, j, rfl, rfl, q⟩⟩
def rMulI : R2 := fun x y H Q => rI CMul (fun i j => .int (i * j)) x y H Q ∨ rI CMulX (fun i j => .int (i * j)) x y H Q
def rMulU : R2 := fun x y H Q => rMulI x y H Q ∨ rRep x y H Q
theorem op_mulU {X : Cx} : OpR X (binaryOp .Mult) rMulU := (op_mul.or op_mulX).or op_rep
theorem flat_rep_dq {B : Hp} {vs : List V} {xs : List PyData} (h : DqAll K B vs xs) : ∀ n : Nat, DqAll K B (List.replicate n vs).flatten (List.replicate n xs).flatten
  | 0 => .nil
  | n + 1 => by
    rw [List.replicate_succ, List.replicate_succ, List.flatten_cons, List.flatten_cons]
    exact dpAll_app h (flat_rep_dq h n)
theorem os_div : OpS K (rI CDivW fun i j => .int (i / j)) fDiv := os_int fun dx dy k h => by
  obtain ⟨i, j, rfl, rfl, h⟩ := int2 (p := fun i j => DOk j ∧ k (.dat (.int (i / j)))) h
  exact ⟨i, j, _, rfl, rfl, h.2, fun B => .int _, fun H Q q => ⟨i, j, rfl, rfl, h.1, q⟩⟩
theorem os_mod : OpS K (rI (fun _ j => 0 < j) fun i j => .int (i % j)) fMod := os_int fun dx dy k h => by
  obtain ⟨i, j, rfl, rfl, h⟩ := int2 (p := fun i j => 0 < j ∧ k (.dat (.int (i % j)))) h
  exact ⟨i, j, _, rfl, rfl, h.2, fun B => .int _, fun H Q q => ⟨i, j, rfl, rfl, h.1, q⟩⟩
theorem os_pow : OpS K (rI CPow fun i j => .int (i ^ j.toNat)) fPow := os_int fun dx dy k h => by
  obtain ⟨i, j, rfl, rfl, h⟩ := int2 (p := fun i j => CPow i j ∧ k (.dat (.int (i ^ j.toNat)))) h
  exact ⟨i, j, _, rfl, rfl, h.2, fun B => .int _, fun H Q q => ⟨i, j, rfl, rfl, h.1, q⟩⟩
theorem os_shl : OpS K (rI CShl fun i j => .int (i * 2 ^ j.toNat)) fShl := os_int fun dx dy k h => by
  obtain ⟨i, j, rfl, rfl, h⟩ := int2 (p := fun i j => CShl i j ∧ k (.dat (.int (i * 2 ^ j.toNat)))) h
  exact ⟨i, j, _, rfl, rfl, h.2, fun B => .int _, fun H Q q => ⟨i, j, rfl, rfl, h.1, q⟩⟩
theorem os_shr : OpS K (rI (fun _ j => 0 ≤ j) fun i j => .int (i / 2 ^ j.toNat)) fShr := os_int fun dx dy k h => by
  obtain ⟨i, j, rfl, rfl, h⟩ := int2 (p := fun i j => 0 ≤ j ∧ k (.dat (.int (i / 2 ^ j.toNat)))) h
  exact ⟨i, j, _, rfl, rfl, h.2, fun B => .int _, fun H Q q => ⟨i, j, rfl, rfl, h.1, q⟩⟩
def rAnd1 : R2 := fun x y H Q => ∃ (i : Int) (k : Nat), x = .int i ∧ y = .int (2 ^ k - 1) ∧ Q (.int (i % 2 ^ k)) H
theorem op_and1 {X : Cx} : OpR X (binaryOp .BitAnd) rAnd1 := op_andM
theorem os_and1 : OpS K rAnd1 fAnd1 := os_int (g := fun i _ => .int (i % 2)) fun dx dy k h => by
  obtain ⟨i, j, rfl, rfl, hj, h2⟩ := int2 (p := fun i j => j = 1 ∧ k (.dat (.int (i % 2)))) h
  subst hj
  have e : (2 : Int) ^ 1 = 2 := rfl
  exact ⟨i, 1, .int (i % 2), rfl, rfl, h2, fun B => .int _, fun H Q q => ⟨i, 1, rfl, by rw [e] <;> rfl, by rw [e]; exact q⟩⟩
theorem os_cmp {p : Int → Int → Bool} : OpS K (rI0 fun i j => .bl (p i j)) (fCmp p) := os_int fun dx dy k h => by
  obtain ⟨i, j, rfl, rfl, h⟩ := int2 (p := fun i j => k (.dat (.bool (p i j)))) h
  exact ⟨i, j, _, rfl, rfl, h, fun B => .bl _, fun H Q q => ⟨i, j, rfl, rfl, q⟩⟩
theorem os_eq : OpS K (rEqD K) fEq := by
  intro B H x y dx dy k Q i ox oy hf q
  exact ⟨dx, dy, dq_dp _ _ (SeqAt.canLay_of_shaped hf.1) (opd_dp i ox), dq_dp _ _ (SeqAt.canLay_of_shaped hf.2.1) (opd_dp i oy), hf.1, hf.2.1, dat_same (k := k) i hf.2.2 (.bl _) q⟩
theorem os_ne : OpS K (rNeD K) fNe := by
  intro B H x y dx dy k Q i ox oy hf q
  exact ⟨dx, dy, dq_dp _ _ (SeqAt.canLay_of_shaped hf.1) (opd_dp i ox), dq_dp _ _ (SeqAt.canLay_of_shaped hf.2.1) (opd_dp i oy), hf.1, hf.2.1, dat_same (k := k) i hf.2.2 (.bl _) q⟩
theorem opd_isNone {B H : Hp} {v : V} {d : PyData} (h : Opd K B H v d) : decide (v = .non) = isNoneD d := by
  rcases h with h | ⟨l, vs, ys, rfl, rfl, h1, h2⟩
  · cases h <;> rfl
  · rfl
def rIsU : R2 := fun x y H Q => (y = .non ∧ Q (.bl (decide (x = .non))) H) ∨ rIsB x y H Q
def rIsNotU : R2 := fun x y H Q => (y = .non ∧ Q (.bl (!decide (x = .non))) H) ∨ rNotB x y H Q
theorem op_isU {X : Cx} : OpR X (compareOp .Is) rIsU := op_isN.or op_isBl
theorem op_isNotU {X : Cx} : OpR X (compareOp .IsNot) rIsNotU := op_notN.or op_notBl
theorem is_cases {x y : PyData} {p : Bool → Bool → Prop} {r : PyData → Prop} (h : match x, y with
  | .bool a, .bool b => p a b
  | x, .none => r x
  | _, _ => False) : (∃ a b, x = .bool a ∧ y = .bool b ∧ p a b) ∨ (y = .none ∧ r x) := by
  cases y with
  | none => cases x <;> exact .inr ⟨rfl, h⟩
  | bool b => cases x with
    | bool a => exact .inl ⟨a, b, rfl, rfl, h⟩
    | _ => exact (show False from h).elim
  | _ => cases x <;> exact (show False from h).elim
theorem os_is : OpS K rIsU fIs := by
  intro B H x y dx dy k Q i ox oy hf q
  rcases is_cases (p := fun a b => k (.dat (.bool (decide (a = b))))) (r := fun x => k (.dat (.bool (isNoneD x)))) hf with ⟨a, b, rfl, rfl, h⟩ | ⟨rfl, h⟩
  · exact .inr ⟨a, b, opd_bool ox, opd_bool oy, dat_same (k := k) i h (.bl _) q⟩
  · exact .inl ⟨opd_none oy, by rw [opd_isNone ox]; exact dat_same (k := k) i h (.bl _) q⟩
theorem os_isNot : OpS K rIsNotU fIsNot := by
  intro B H x y dx dy k Q i ox oy hf q
  rcases is_cases (p := fun a b => k (.dat (.bool (!decide (a = b))))) (r := fun x => k (.dat (.bool (!isNoneD x)))) hf with ⟨a, b, rfl, rfl, h⟩ | ⟨rfl, h⟩
  · exact .inr ⟨a, b, opd_bool ox, opd_bool oy, dat_same (k := k) i h (.bl _) q⟩
  · exact .inl ⟨opd_none oy, by rw [opd_isNone ox]; exact dat_same (k := k) i h (.bl _) q⟩
theorem us_neg : UnS K (rU fun i => .int (-i)) fNeg := by
  intro B H x dx k Q i ox hf q
  cases dx with
  | int n => exact ⟨n, opd_int ox, dat_same (k := k) i hf (.int _) q⟩
  | _ => exact (show False from hf).elim
def rAddI : R2 := rI0 fun i j => .int (i + j)
def rAddSt : R2 := fun x y H Q => ∃ i j, x = .str i ∧ y = .str j ∧ i.length + j.length ≤ sizeLine ∧ Q (.str (i ++ j)) H
def rAddU (K : PySem.W.Frag) : R2 := fun x y H Q => ((rAddI x y H Q ∨ rAddSt x y H Q) ∨ rCatA K x y H Q) ∨ rCat x y H Q
theorem op_addU {X : Cx} : OpR X (binaryOp .Add) (rAddU X.K) := ((op_add.or op_add_str).or op_catA).or op_cat
theorem sz2 {n : Nat} (h : n ≤ 200000) : n ≤ sizeLine := Nat.le_trans h (by decide)
theorem os_add : OpS K (rAddU K) fAdd := by
  intro B H x y dx dy k Q i ox oy hf q
  have bad : ¬ False := fun z => z
  cases dx with
  | int a => cases dy with
    | int b => exact .inl (.inl (.inl ⟨a, b, opd_int ox, opd_int oy, dat_same (k := k) i hf (.int _) q⟩))
    | _ => exact (bad hf).elim
  | str a => cases dy with
    | str b => exact .inl (.inl (.inr ⟨a, b, opd_str ox, opd_str oy, sz5 hf.1, dat_same (k := k) i hf.2 (.str _) q⟩))
    | _ => exact (bad hf).elim
  | tuple xs => cases dy with
    | tuple ys =>
      obtain ⟨hl, hf⟩ := hf
      obtain ⟨a, vs, rfl, ha, da⟩ := opd_tup i ox
      obtain ⟨b, ws, rfl, hb, db⟩ := opd_tup i oy
      have la := dpAll_len da
      have lb := dpAll_len db
      have qa : vs = [] → xs = [] := fun e => by
        rw [e] at la
        exact List.eq_nil_of_length_eq_zero la.symm
      have qb : ws = [] → ys = [] := fun e => by
        rw [e] at lb
        exact List.eq_nil_of_length_eq_zero lb.symm
      refine .inl (.inr ⟨a, b, vs, ws, rfl, rfl, ha, hb, sz2 (by rw [la, lb]; exact hl), fun e => ?_, fun _ e => ?_, fun _ _ p np => ?_⟩)
      · rw [qa e, List.nil_append] at hf
        rcases oy with oy | ⟨_, _, _, _, z, _⟩
        · exact dat_same (k := k) i hf oy q
        · cases z
      · rw [qb e, List.append_nil] at hf
        rcases ox with ox | ⟨_, _, _, _, z, _⟩
        · exact dat_same (k := k) i hf ox q
        · cases z
      · exact dat_tup (k := k) i hf (dpAll_app da db) q np
    | _ => exact (bad hf).elim
  | list xs => cases dy with
    | list ys =>
      obtain ⟨hl, hf⟩ := hf
      obtain ⟨a, vs, rfl, ha, da⟩ := opd_list i ox
      obtain ⟨b, ws, rfl, hb, db⟩ := opd_list i oy
      exact .inr ⟨a, b, vs, ws, rfl, rfl, ha, hb, sz2 (by rw [dpAll_len da, dpAll_len db]; exact hl), fun p np => dat_lst (k := k) i hf (dpAll_app da db) q np⟩
    | _ => exact (bad hf).elim
  | _ => cases dy <;> exact (bad hf).elim
theorem os_mul : OpS K rMulU fMul := by
  intro B H x y dx dy k Q i ox oy hf q
  have bad : ¬ False := fun z => z
  cases dx with
  | int a => cases dy with
    | int b =>
      obtain ⟨h, hf⟩ := hf
      have qq := dat_same (k := k) i hf (.int _) q
      rcases h with h | h
      · exact .inl (.inl ⟨a, b, opd_int ox, opd_int oy, h, qq⟩)
      · exact .inl (.inr ⟨a, b, opd_int ox, opd_int oy, h, qq⟩)
    | _ => exact (bad hf).elim
  | list xs => cases dy with
    | int n =>
      obtain ⟨hl, h1, h2, hf⟩ := hf
      obtain ⟨a, vs, rfl, ha, da⟩ := opd_list i ox
      refine .inr ⟨a, n, vs, rfl, opd_int oy, ha, by omega, by omega, sz2 (by rw [dpAll_len da]; exact hl), fun p np => dat_lst (k := k) i hf (flat_rep_dq da _) q np⟩
    | _ => exact (bad hf).elim
  | _ => cases dy <;> exact (bad hf).elim
theorem atI_dq {B : Hp} {vs : List V} {xs : List PyData} {i : Int} {d : PyData} (h : DqAll K B vs xs) (e : atI xs i = some d) : ∃ v, atI vs i = some v ∧ Dq K B v d := by
  unfold atI at e ⊢
  rw [dpAll_len h]
  cases q : ixN xs.length i with
  | none =>
    rw [q] at e
    cases e
  | some j =>
    rw [q] at e
    exact dpAll_get h e
theorem os_ix : OpS K (rIx K) fIx := by
  intro B H x y dx dy k Q i ox oy hf q
  have bad : ¬ False := fun z => z
  cases dx with
  | list xs => cases dy with
    | int n =>
      obtain ⟨d, e, hf⟩ := hf
      obtain ⟨a, vs, rfl, ha, da⟩ := opd_list i ox
      obtain ⟨v, ev, hv⟩ := atI_dq da e
      exact .inl ⟨a, vs, n, v, rfl, opd_int oy, sql_of ha, ev, dat_same (k := k) i hf hv q⟩
    | _ => exact (bad hf).elim
  | tuple xs => cases dy with
    | int n =>
      obtain ⟨d, e, hf⟩ := hf
      obtain ⟨a, vs, rfl, ha, da⟩ := opd_tup i ox
      obtain ⟨v, ev, hv⟩ := atI_dq da e
      exact .inr (.inl ⟨a, vs, n, v, rfl, opd_int oy, ha, ev, dat_same (k := k) i hf hv q⟩)
    | _ => exact (bad hf).elim
  | dict kvs =>
    rcases ox with ox | ⟨_, _, _, _, z, _⟩
    · cases ox with
      | scr hs => cases dy with
        | int n =>
          obtain ⟨d, e, hf⟩ := hf
          obtain ⟨v, ev, hv⟩ := atI_dq (K := K) (B := B) (dpAll_ints _) e
          exact .inl ⟨_, _, n, v, rfl, opd_int oy, (hs.mono i).sq, ev, dat_same (k := k) i hf hv q⟩
        | _ => exact (bad hf).elim
    · cases z
  | str z => cases dy with
    | int n =>
      obtain ⟨hz, c, e, hf⟩ := hf
      exact .inr (.inr ⟨z, n, c, opd_str ox, opd_int oy, sz5 hz, e, dat_same (k := k) i hf (.str _) q⟩)
    | _ => exact (bad hf).elim
  | _ => cases dy <;> exact (bad hf).elim
theorem cut_dq {B : Hp} {vs : List V} {xs : List PyData} (lo hi : Option Int) (h : DqAll K B vs xs) : DqAll K B (cutV vs lo hi) (cutD xs lo hi) := by
  unfold cutV cutD
  rw [dpAll_len h]
  exact dpAll_take _ (dpAll_drop _ h)
def rSlU (K : PySem.W.Frag) : V → Option Int → Option Int → Hp → VK → Prop := fun x lo hi H Q => rSlA K x lo hi H Q ∨ rSlL K x lo hi H Q
theorem sl_U {X : Cx} : SlR X (rSlU X.K) := sl_tupA.or sl_list
theorem cut_whole (xs : List PyData) {lo hi : Option Int} (h : HT.sIx xs.length 0 lo = 0 ∧ HT.sIx xs.length xs.length hi = xs.length) : cutD xs lo hi = xs := by
  unfold cutD
  rw [h.1, h.2, List.drop_zero, Nat.sub_zero, List.take_length]
theorem ss_sl : SlS K (rSlU K) fSl := by
  intro B H x dx lo hi k Q i ox hf q
  have bad : ¬ False := fun z => z
  cases dx with
  | tuple xs =>
    obtain ⟨a, vs, rfl, ha, da⟩ := opd_tup i ox
    refine .inl ⟨a, vs, rfl, ha, fun e => ?_, fun _ p np => dat_tup (k := k) i hf (cut_dq lo hi da) q np⟩
    rw [dpAll_len da] at e
    have hf : k (.dat (.tuple (cutD xs lo hi))) := hf
    rw [cut_whole xs e] at hf
    rcases ox with ox | ⟨_, _, _, _, z, _⟩
    · exact dat_same (k := k) i hf ox q
    · cases z
  | list xs =>
    obtain ⟨a, vs, rfl, ha, da⟩ := opd_list i ox
    exact .inr ⟨a, vs, rfl, sql_of ha, fun p np => dat_lst (k := k) i hf (cut_dq lo hi da) q np⟩
  | _ => exact (bad hf).elim

/-! ### built-ins -/
theorem opds1 {B H : Hp} {vs : List V} {d : PyData} (h : OpdAll K B H vs [d]) : ∃ v, vs = [v] ∧ Opd K B H v d := by
  cases h with
  | cons h1 h2 =>
    cases h2
    exact ⟨_, rfl, h1⟩
theorem opds2 {B H : Hp} {vs : List V} {d e : PyData} (h : OpdAll K B H vs [d, e]) : ∃ v w, vs = [v, w] ∧ Opd K B H v d ∧ Opd K B H w e := by
  cases h with
  | cons h1 h2 =>
    obtain ⟨w, rfl, h3⟩ := opds1 h2
    exact ⟨_, w, rfl, h1, h3⟩
def rAbs : List V → Hp → VK → Prop := fun xs H Q => ∃ i, xs = [.int i] ∧ Q (.int (if i < 0 then -i else i)) H
theorem bs_abs : BS K rAbs fAbs := by
  intro B H xs ds k Q i ox hf q
  unfold fAbs at hf
  split at hf
  · obtain ⟨v, rfl, o⟩ := opds1 ox
    exact ⟨_, by rw [opd_int o], dat_same (k := k) i hf (.int _) q⟩
  · exact hf.elim
def rInt1 : List V → Hp → VK → Prop := fun xs H Q => (∃ i, xs = [.int i] ∧ Q (.int i) H) ∨ ∃ k, xs = [.bl k] ∧ Q (.int (if k then 1 else 0)) H
theorem bs_int : BS K rInt1 fInt := by
  intro B H xs ds k Q i ox hf q
  unfold fInt at hf
  split at hf
  · obtain ⟨v, rfl, o⟩ := opds1 ox
    exact .inl ⟨_, by rw [opd_int o], dat_same (k := k) i hf (.int _) q⟩
  · obtain ⟨v, rfl, o⟩ := opds1 ox
    exact .inr ⟨_, by rw [opd_bool o], dat_same (k := k) i hf (.int _) q⟩
  · exact hf.elim
def rMax2 : List V → Hp → VK → Prop := fun xs H Q => ∃ i j, xs = [.int i, .int j] ∧ Q (.int (if j > i then j else i)) H
theorem bs_max2 : BS K rMax2 fMax2 := by
  intro B H xs ds k Q i ox hf q
  unfold fMax2 at hf
  split at hf
  · obtain ⟨v, w, rfl, o, o2⟩ := opds2 ox
    exact ⟨_, _, by rw [opd_int o, opd_int o2], dat_same (k := k) i hf (.int _) q⟩
  · exact hf.elim
def rMin2 : List V → Hp → VK → Prop := fun xs H Q => ∃ i j, xs = [.int i, .int j] ∧ Q (.int (if j < i then j else i)) H
theorem bs_min2 : BS K rMin2 fMin2 := by
  intro B H xs ds k Q i ox hf q
  unfold fMin2 at hf
  split at hf
  · obtain ⟨v, w, rfl, o, o2⟩ := opds2 ox
    exact ⟨_, _, by rw [opd_int o, opd_int o2], dat_same (k := k) i hf (.int _) q⟩
  · exact hf.elim
def rLenU (K : PySem.W.Frag) : List V → Hp → VK → Prop := fun xs H Q => (∃ p ys, xs = [.ref p] ∧ (SqL K H p ys ∨ SqT K H p ys) ∧ Q (.int ys.length) H) ∨ ∃ z, xs = [.str z] ∧ z.length ≤ sizeLine ∧ Q (.int z.length) H
theorem call_lenU {X : Cx} : CallR X (.builtin "len") (rLenU X.K) := call_len_seq.or call_len_str
theorem bs_len : BS K (rLenU K) fLen := by
  intro B H xs ds k Q i ox hf q
  unfold fLen at hf
  split at hf
  · obtain ⟨v, rfl, o⟩ := opds1 ox
    rcases o with o | ⟨_, _, _, _, z, _⟩
    · cases o with
      | scr hs =>
        refine .inl ⟨_, _, rfl, .inl (hs.mono i).sq, ?_⟩
        have hf := hf
        rw [List.length_map] at hf ⊢
        exact dat_same (k := k) i hf (.int _) q
    · cases z
  · obtain ⟨v, rfl, o⟩ := opds1 ox
    obtain ⟨a, vs, rfl, ha, da⟩ := opd_list i o
    exact .inl ⟨a, vs, rfl, .inl (sql_of ha), by rw [dpAll_len da]; exact dat_same (k := k) i hf (.int _) q⟩
  · obtain ⟨v, rfl, o⟩ := opds1 ox
    obtain ⟨a, vs, rfl, ha, da⟩ := opd_tup i o
    exact .inl ⟨a, vs, rfl, .inr ha, by rw [dpAll_len da]; exact dat_same (k := k) i hf (.int _) q⟩
  · obtain ⟨v, rfl, o⟩ := opds1 ox
    exact .inr ⟨_, by rw [opd_str o], sz5 hf.1, dat_same (k := k) i hf.2 (.int _) q⟩
  · exact hf.elim
def rTupleOf (K : PySem.W.Frag) : List V → Hp → VK → Prop := fun xs H Q => ∃ p ys, xs = [.ref p] ∧ ((SqL K H p ys ∧ ∀ l, H l = none → Q (.ref l) (upd H l (.tup ys))) ∨ (SqT K H p ys ∧ Q (.ref p) H))
theorem bs_tupleOf : BS K (rTupleOf K) fTupleOf := by
  intro B H xs ds k Q i ox hf q
  unfold fTupleOf at hf
  split at hf
  · obtain ⟨v, rfl, o⟩ := opds1 ox
    obtain ⟨a, vs, rfl, ha, da⟩ := opd_list i o
    exact ⟨a, vs, rfl, .inl ⟨sql_of ha, fun p np => dat_tup (k := k) i hf da q np⟩⟩
  · obtain ⟨v, rfl, o⟩ := opds1 ox
    obtain ⟨a, vs, rfl, ha, da⟩ := opd_tup i o
    refine ⟨a, vs, rfl, .inr ⟨ha, ?_⟩⟩
    rcases o with o | ⟨_, _, _, _, z, _⟩
    · exact dat_same (k := k) i hf o q
    · cases z
  · exact hf.elim
def rListOf (K : PySem.W.Frag) : List V → Hp → VK → Prop := fun xs H Q => ∃ p ys, xs = [.ref p] ∧ (SqL K H p ys ∨ SqT K H p ys) ∧ ∀ l, H l = none → Q (.ref l) (upd H l (.lst ys))
theorem bs_listOf : BS K (rListOf K) fListOf := by
  intro B H xs ds k Q i ox hf q
  unfold fListOf at hf
  split at hf
  · obtain ⟨v, rfl, o⟩ := opds1 ox
    obtain ⟨a, vs, rfl, ha, da⟩ := opd_list i o
    exact ⟨a, vs, rfl, .inl (sql_of ha), fun p np => dat_lst (k := k) i hf da q np⟩
  · obtain ⟨v, rfl, o⟩ := opds1 ox
    obtain ⟨a, vs, rfl, ha, da⟩ := opd_tup i o
    exact ⟨a, vs, rfl, .inr ha, fun p np => dat_lst (k := k) i hf da q np⟩
  · exact hf.elim
/-- sum of a tuple of ints -/
def rSumT (K : PySem.W.Frag) : List V → Hp → VK → Prop := fun vs H Q => ∃ (a : Addr) (ns : List Int), vs = [V.ref a] ∧ SqT K H a (ns.map V.int) ∧ Q (.int ns.sum) H
theorem cr_sumT {X : Cx} (hc : X.calm = true) : CallR X (.builtin "sum") (rSumT X.K) := by
  intro pins s σ H vs us Q I r h
  obtain ⟨a, ns, rfl, hs, q⟩ := h
  obtain ⟨its, rv, hl, _⟩ := I.tuple hs
  obtain ⟨u, rfl, ru⟩ := vals1 r
  cases ru
  have hi : IntsAre its ns := rv.ints
  obtain ⟨xs, hx⟩ := hi.allInts.items
  have hn : numsOf its.toArray.toList = ns := by rw [show its.toArray.toList = its from rfl, hi.numsOf]
  have hl : s.heap.IsTuple a its.toArray := hl
  rw [hx] at hl hn
  rw [nums_intItems] at hn
  refine PySem.W.ktm_sumG (I.ok.hd hc) hl fun h' tk t' hk => ?_
  rw [preSum_eq, List.take_of_length_le (by simp), hn]
  exact ⟨.int _, H, I.kept hk, ⟨_, rfl⟩, q⟩
def rSumU (K : PySem.W.Frag) : List V → Hp → VK → Prop := fun xs H Q => rSum K xs H Q ∨ rSumT K xs H Q
theorem call_sumU {X : Cx} (hc : X.calm = true) : CallR X (.builtin "sum") (rSumU X.K) := (cr_sum hc).or (cr_sumT hc)
theorem bs_sum : BS K (rSumU K) fSum := by
  intro B H xs ds k Q i ox hf q
  unfold fSum at hf
  split at hf
  · obtain ⟨v, rfl, o⟩ := opds1 ox
    obtain ⟨ns, rfl, hf⟩ := hf
    obtain ⟨a, vs, rfl, ha, da⟩ := opd_list i o
    rw [dpAll_ints_inv da] at ha
    exact .inl ⟨a, ns, rfl, sql_of ha, dat_same (k := k) i hf (.int _) q⟩
  · obtain ⟨v, rfl, o⟩ := opds1 ox
    obtain ⟨ns, rfl, hf⟩ := hf
    obtain ⟨a, vs, rfl, ha, da⟩ := opd_tup i o
    rw [dpAll_ints_inv da] at ha
    exact .inr ⟨a, ns, rfl, ha, dat_same (k := k) i hf (.int _) q⟩
  · exact hf.elim
/-! ### isinstance with a built-in type -/
def tyD : PyData → String
  | .none => "NoneType"
  | .bool _ => "bool"
  | .int _ => "int"
  | .str _ => "str"
  | .list _ => "list"
  | .tuple _ => "tuple"
  | .dict _ => "list"
theorem tyX_of {B H : Hp} {v : V} {d : PyData} (i : Same B H) (h : Opd K B H v d) : TyX K H v (.type (tyD d)) := by
  have g : Dq K H v d := by
    rcases h with h | ⟨l, vs, xs, rfl, rfl, h1, h2⟩
    · exact dp_mono i _ _ h
    · exact .lst h1 (dpAll_mono i _ _ h2)
  cases g with
  | non => exact .base .non
  | bl b => exact .base (.bl b)
  | int n => exact .base (.int n)
  | str x => exact .base (.str x)
  | lst e _ => exact .base (.lst e)
  | tup e _ =>
    rcases e with (e | ⟨o, e⟩) | e
    · exact .base (.tup e)
    · exact .fTuple e
    · obtain ⟨its, r, o, h1, h2, _⟩ := e
      exact .kTuple h1 h2
  | scr e =>
    rcases e with ⟨o, e⟩ | ⟨o, its, n, h1, h2, _⟩
    · exact .base (.frz e)
    · exact .kList h1 h2
def isD (T : String) (d : PyData) : Bool := match kitB (tyD d) T with
  | some b => b
  | none => false
def isOk (T : String) : Bool := ["NoneType", "bool", "int", "str", "list", "tuple"].all fun t => (kitB t T).isSome
def aIsi (T : String) (a : AE) : AR := fun ss P X => a ss (fun t => on1 (look ss t) fun d => P (.dat (.bool (isD T d)))) X
end
end AB
namespace AB
open PySem PySem.Spec PyProof.Rows L2

/-! ### isinstance with a built-in type -/
section
variable {K : PySem.W.Frag} {W : WX}
theorem kit_isD {B H : Hp} {v : V} {d : PyData} {T : String} (h : isOk T = true) (o : Opd K B H v d) : kitB (tyD d) T = some (isD T d) := by
  unfold isOk at h
  simp only [List.all_cons, List.all_nil, Bool.and_true, Bool.and_eq_true] at h
  obtain ⟨h1, h2, h3, h4, h5, h6⟩ := h
  have key : ∀ t, (kitB t T).isSome = true → kitB t T = some (match kitB t T with | some b => b | none => false) := fun t ht => by
    cases e : kitB t T with
    | none => rw [e] at ht; cases ht
    | some b => rfl
  cases d with
  | none => exact key _ h1
  | bool _ => exact key _ h2
  | int _ => exact key _ h3
  | str _ => exact key _ h4
  | list _ => exact key _ h5
  | tuple _ => exact key _ h6
  | dict kvs => exact key _ h5
theorem snd_isi {T : String} {ta : TE} {a : AE} (hT : isOk T = true) (ha : Snd K W ta a) : SndR K W (tCB (rIsi K) (tCons ta (tCons (tC (.ty T)) tNil))) (aIsi T a) := by
  intro B0 H0 Tm ss σ H P Xe Q R hp q x
  refine ha B0 H0 Tm ss σ H _ Xe _ R hp (fun v1 t1 H1 h1 R1 => ?_) x
  obtain ⟨d, e, h⟩ := on1_some h1
  obtain ⟨B, R1⟩ := R1
  have o : Opd K B H1 v1 d := R1.opd1 e
  exact ⟨v1, .ty T, .type (tyD d), .type T, isD T d, rfl, .ty T, tyX_of R1.g.i o, kit_ty (kit_isD hT o), q _ _ H1 h (repR_mkB _ ⟨B, R1.sub fun _ h => List.mem_cons_of_mem _ h⟩)⟩
end

/-! ### what a def is worth -/
abbrev FT := List PyData → (RV → Prop) → XP → Prop
def spD (K : PySem.W.Frag) (ft : FT) : Sp := fun vs H Q E => ∃ B ds P X, Same B H ∧ DqAll K B vs ds ∧ ft ds P X ∧
  (∀ v r B' H', P r → Grow B H B' H' → RepV K H B' H' v r → Q v H') ∧ (∀ c B' H', X c → Grow B H B' H' → E c none H')
def aCall (ft : FT) (aa : AA) : AR := fun ss P X => aa ss (fun rs => match datAll rs with
  | some ds => ft ds P X
  | none => False) X
section
variable {K : PySem.W.Frag} {W : WX}
theorem snd_call {ft : FT} {ta : TA} {aa : AA} (ha : SndA K W ta aa) : SndR K W (tCallS (spD K ft) (WE W) ta) (aCall ft aa) := by
  intro B0 H0 T ss σ H P Xe Q R hp q x
  refine ha B0 H0 T ss σ H _ Xe _ R hp (fun vs rs H1 h1 hl R1 => ?_) x
  obtain ⟨B, R1⟩ := R1
  split at h1
  · rename_i ds e
    have R2 := R1.sub (T' := T) fun _ h => List.mem_append_right _ h
    exact ⟨B, ds, P, Xe, R1.g.i, datAll_dp (fun p hp => R1.t p (List.mem_append_left _ hp)) hl e, h1, fun v r B' H' hP g rv => q v r H' hP (repR_of R2 g rv), fun c B' H' hX g => x c H' hX ⟨B', R2.grow g⟩⟩
  · exact h1.elim
/-- a def that raises nothing -/
def Calm (ft : FT) : Prop := ∀ ds P X, ft ds P X → ft ds P fun _ => False
theorem snd_callP {ft : FT} {ta : TA} {aa : AA} (hf : Calm ft) (ha : SndA K W ta aa) : SndR K W (tCallS (spD K ft) (fun _ => E0) ta) (aCall ft aa) := by
  intro B0 H0 T ss σ H P Xe Q R hp q x
  refine ha B0 H0 T ss σ H _ Xe _ R hp (fun vs rs H1 h1 hl R1 => ?_) x
  obtain ⟨B, R1⟩ := R1
  split at h1
  · rename_i ds e
    have R2 := R1.sub (T' := T) fun _ h => List.mem_append_right _ h
    exact ⟨B, ds, P, fun _ => False, R1.g.i, datAll_dp (fun p hp => R1.t p (List.mem_append_left _ hp)) hl e, hf _ _ _ h1, fun v r B' H' hP g rv => q v r H' hP (repR_of R2 g rv), fun c B' H' hX g => hX.elim⟩
  · exact h1.elim
theorem passN {X : Cx} (σ : L2.St) : PassesAt (L2N.CX X.prog X.w) X σ E0 := fun _ _ _ _ _ _ h => by
  obtain ⟨_, _, _, _, _, _, _, _, _, _, _, _, z⟩ := h
  exact z.elim
theorem dq_len {B : Hp} {vs : List V} {ds : List PyData} (h : DqAll K B vs ds) : vs.length = ds.length := dpAll_len h
end

/-! ### statements -/
structure AD where
  nx : List SV → Prop
  rt : RV → List SV → Prop
  bk : List SV → Prop
  ct : List SV → Prop
  ex : Value → List SV → Prop
abbrev AS := AD → List SV → Prop
def RepT (K : PySem.W.Frag) (B0 H0 : Hp) (ss : List SV) (σ : L2.St) (H : Hp) (v : V) (r : RV) : Prop := ∃ B, RepB K B0 H0 B H [] ss σ ∧ RepV K H0 B H v r
structure Abs (K : PySem.W.Frag) (B0 H0 : Hp) (W : WX) (D : Ends) (A : AD) : Prop where
  nx : ∀ ss σ H, A.nx ss → Rep K B0 H0 [] ss σ H → D.nx σ H
  rt : ∀ r ss σ H v, A.rt r ss → RepT K B0 H0 ss σ H v r → D.rt v H
  bk : ∀ ss σ H, A.bk ss → Rep K B0 H0 [] ss σ H → D.bk σ H
  ct : ∀ ss σ H, A.ct ss → Rep K B0 H0 [] ss σ H → D.ct σ H
  ex : ∀ c ss σ H, A.ex c ss → Rep K B0 H0 [] ss σ H → W c none σ H
def SndS (K : PySem.W.Frag) (W : WX) (ts : TS) (as : AS) : Prop := ∀ (B0 H0 : Hp) (ss : List SV) (σ : L2.St) (H : Hp) (D : Ends) (A : AD), Rep K B0 H0 [] ss σ H → as A ss → Abs K B0 H0 W D A → ts D σ H
structure QS (X : Cx) (W : WX) (st : Stmt) (as : AS) : Prop where
  ex : ∃ ts, PS X st ts ∧ SndS X.K W ts as
structure QSs (X : Cx) (W : WX) (sts : List Stmt) (as : AS) : Prop where
  ex : ∃ ts, PSs X sts ts ∧ SndS X.K W ts as
def aNext : AS := fun A ss => A.nx ss
def aSeq (a b : AS) : AS := fun A ss => a { A with nx := fun s => b A s } ss
def aAsg (i : Nat) (ar : AR) : AS := fun A ss => ar ss (fun r => match r with
  | .dat d => A.nx (ss.set i (.val d))
  | .new xs => A.nx (ss.set i (.lst xs))
  | .drw => ∀ l, A.nx (ss.set i (.drw l))) fun c => A.ex c ss
def aIfS (t : AT) (a b : AS) : AS := fun A ss => t ss (fun c => if c = true then a A ss else b A ss) fun c => A.ex c ss
def aDrop (ar : AR) : AS := fun A ss => ar ss (fun _ => A.nx ss) fun c => A.ex c ss
def aRet (ar : AR) : AS := fun A ss => ar ss (fun r => A.rt r ss) fun c => A.ex c ss
def aRetN : AS := fun A ss => A.rt (.dat .none) ss
/-- an owned list is returned -/
def aRetV (i : Nat) : AS := fun A ss => match ss[i]? with
  | some (.lst xs) => A.rt (.new xs) ss
  | _ => False
def aBrk : AS := fun A ss => A.bk ss
def aCt : AS := fun A ss => A.ct ss
/-- from here on the list in slot i is a value -/
def aFrz (i : Nat) (as : AS) : AS := fun A ss => match ss[i]? with
  | some (.lst xs) => as A (ss.set i (.val (.list xs)))
  | _ => as A ss
def aApp (i : Nat) (ae : AE) : AS := fun A ss => match ss[i]? with
  | some (.lst xs) => ae ss (fun t => match t with
    | .dat d => xs.length < 200000 ∧ A.nx (ss.set i (.lst (xs ++ [d])))
    | .ali _ => False) fun c => A.ex c ss
  | _ => False
def aAug (f : Int → Int → Int) (i : Nat) (ae : AE) : AS := fun A ss => match ss[i]? with
  | some (.val (.int a)) => ae ss (fun t => match t with
    | .dat (.int b) => A.nx (ss.set i (.val (.int (f a b))))
    | _ => False) fun c => A.ex c ss
  | _ => False
def aRaise (c : Value) : AS := fun A ss => A.ex c ss
def aNever : AS := fun _ _ => False
def aPar (i j : Nat) (aa : AA) : AS := fun A ss => aa ss (fun rs => match rs with
  | [.dat d, .dat e] => A.nx ((ss.set i (.val d)).set j (.val e))
  | _ => False) fun c => A.ex c ss
def aPar3 (i j l : Nat) (aa : AA) : AS := fun A ss => aa ss (fun rs => match rs with
  | [.dat d, .dat e, .dat f] => A.nx (((ss.set i (.val d)).set j (.val e)).set l (.val f))
  | _ => False) fun c => A.ex c ss
section
variable {K : PySem.W.Frag} {W : WX} {B0 H0 : Hp} {D : Ends} {A : AD}
theorem Abs.base {B H : Hp} (g : Grow B0 H0 B H) (a : Abs K B0 H0 W D A) : Abs K B H0 W D A :=
  ⟨fun ss σ H h R => a.nx ss σ H h (R.unbase g), fun r ss σ H v h R => a.rt r ss σ H v h (by
    obtain ⟨B1, R, rv⟩ := R
    exact ⟨B1, ⟨g.b.trans R.g.b, R.g.i, R.g.h, fun l h0 h1 => R.g.n l h0 (g.n l h0 h1)⟩ |> fun gg => ⟨gg, R.len, R.sl, R.t, R.ap⟩, rv⟩),
   fun ss σ H h R => a.bk ss σ H h (R.unbase g), fun ss σ H h R => a.ct ss σ H h (R.unbase g), fun c ss σ H h R => a.ex c ss σ H h (R.unbase g)⟩
theorem repR_T {ss : List SV} {σ : L2.St} {H : Hp} {v : V} {r : RV} (h : RepR K B0 H0 [] ss σ H v r) : RepT K B0 H0 ss σ H v r := by
  obtain ⟨B, R, rv, _⟩ := h
  exact ⟨B, R, rv⟩
theorem ss_next : SndS K W tNext aNext := fun B0 H0 ss σ H D A R h a => a.nx ss σ H h R
theorem ss_seq {t u : TS} {a b : AS} (h1 : SndS K W t a) (h2 : SndS K W u b) : SndS K W (tSeq t u) (aSeq a b) := fun B0 H0 ss σ H D A R h ab =>
  h1 B0 H0 ss σ H _ _ R h ⟨fun ss σ H h R => h2 B0 H0 ss σ H D A R h ab, ab.rt, ab.bk, ab.ct, ab.ex⟩
theorem ss_asg {te : TE} {ar : AR} {i : Nat} (h : SndR K W te ar) : SndS K W (tAsg te (gName i)) (aAsg i ar) := by
  intro B0 H0 ss σ H D A R hp ab
  refine h B0 H0 [] ss σ H _ _ _ R hp (fun v r H' hr RR => ?_) fun c H' hx R' => ab.ex c ss σ H' hx R'
  cases r with
  | dat d =>
    obtain ⟨B, R', hv, _⟩ := RR
    exact ab.nx _ _ _ hr ⟨B, R'.setV hv i⟩
  | new xs =>
    obtain ⟨B, R', ⟨l, vs, rfl, h0, h1, h2, h3⟩, ap⟩ := RR
    have ap : Apart ss σ (.ref l) := by
      rcases ap with ⟨d, e⟩ | ap
      · cases e
      · exact ap
    exact ab.nx _ _ _ hr ⟨B, R'.setO (s := .lst xs) ⟨l, vs, rfl, h0, h1, h2, h3⟩ (fun m w => by cases w; rfl) (fun k s o e1 e2 => ap l rfl k s o e1 e2) i⟩
  | drw =>
    obtain ⟨B, R', ⟨l, rfl, h0, h1, h2⟩, ap⟩ := RR
    have ap : Apart ss σ (.ref l) := by
      rcases ap with ⟨d, e⟩ | ap
      · cases e
      · exact ap
    exact ab.nx _ _ _ (hr l) ⟨B, R'.setO (s := .drw l) ⟨rfl, h0, h1, h2⟩ (fun m w => by cases w; rfl) (fun k s o e1 e2 => ap l rfl k s o e1 e2) i⟩
theorem ss_if {t : TT} {at_ : AT} {tu tw : TS} {au aw : AS} (h : SndT K W t at_) (h1 : SndS K W tu au) (h2 : SndS K W tw aw) : SndS K W (tIfS t tu tw) (aIfS at_ au aw) := by
  intro B0 H0 ss σ H D A R hp ab
  refine h B0 H0 [] ss σ H _ _ _ R hp (fun b H' hb R' => ?_) fun c H' hx R' => ab.ex c ss σ H' hx R'
  cases b with
  | true => exact iteT (h1 B0 H0 ss σ H' D A R' (by simpa using hb) ab)
  | false => exact iteF (h2 B0 H0 ss σ H' D A R' (by simpa using hb) ab)
theorem ss_drop {te : TE} {ar : AR} (h : SndR K W te ar) : SndS K W (tDrop te) (aDrop ar) := by
  intro B0 H0 ss σ H D A R hp ab
  refine h B0 H0 [] ss σ H _ _ _ R hp (fun v r H' hr RR => ?_) fun c H' hx R' => ab.ex c ss σ H' hx R'
  obtain ⟨B, R', _⟩ := RR
  exact ab.nx _ _ _ hr ⟨B, R'⟩
theorem ss_ret {te : TE} {ar : AR} (h : SndR K W te ar) : SndS K W (tRet te) (aRet ar) := by
  intro B0 H0 ss σ H D A R hp ab
  exact h B0 H0 [] ss σ H _ _ _ R hp (fun v r H' hr RR => ab.rt r ss σ H' v hr (repR_T RR)) fun c H' hx R' => ab.ex c ss σ H' hx R'
theorem ss_retN : SndS K W tRetN aRetN := by
  intro B0 H0 ss σ H D A R hp ab
  obtain ⟨B, R⟩ := R
  exact ab.rt _ ss σ H _ hp ⟨B, R, .non⟩
theorem ss_retV {i : Nat} : SndS K W (tRet (tVar i)) (aRetV i) := by
  intro B0 H0 ss σ H D A R hp ab
  obtain ⟨B, R⟩ := R
  unfold aRetV at hp
  split at hp
  · rename_i xs e
    obtain ⟨o, eo, l, vs, rfl, h0, h1, h2, h3⟩ := R.sl i _ e
    exact ⟨_, eo, ab.rt _ ss σ H _ hp ⟨B, R, l, vs, rfl, h0, h1, h2, h3⟩⟩
  · exact hp.elim
theorem ss_brk : SndS K W tBreak aBrk := fun B0 H0 ss σ H D A R h a => a.bk ss σ H h R
theorem ss_ct : SndS K W tCont aCt := fun B0 H0 ss σ H D A R h a => a.ct ss σ H h R
theorem ss_frz {ts : TS} {as : AS} {i : Nat} (h : SndS K W ts as) : SndS K W ts (aFrz i as) := by
  intro B0 H0 ss σ H D A R hp ab
  unfold aFrz at hp
  split at hp
  · rename_i xs e
    obtain ⟨B, R⟩ := R
    obtain ⟨B', R', _⟩ := R.frz e
    exact h B0 H0 _ σ H D A ⟨B', R'⟩ hp ab
  · exact h B0 H0 ss σ H D A R hp ab
theorem ss_app {te : TE} {ae : AE} {i : Nat} (h : Snd K W te ae) : SndS K W (tDrop (tBM K "list" rAppend (tVar i) (tCons te tNil))) (aApp i ae) := by
  intro B0 H0 ss σ H D A R hp ab
  unfold aApp at hp
  split at hp
  · rename_i xs e
    obtain ⟨B, R⟩ := R
    obtain ⟨o, eo, l, vs, rfl, h0, h1, h2, h3⟩ := R.sl i _ e
    refine ⟨.ref l, eo, .inl ⟨rfl, vs, sql_of h2⟩, ?_⟩
    refine h B0 H0 [] ss σ H _ _ _ ⟨B, R⟩ hp (fun v r H' hr RR => ?_) fun c H' hx R' => ab.ex c ss σ H' hx R'
    cases r with
    | ali _ => exact (show False from hr).elim
    | dat d =>
      obtain ⟨hz, hr⟩ := (show xs.length < 200000 ∧ A.nx (ss.set i (.lst (xs ++ [d]))) from hr)
      obtain ⟨B', R'⟩ := RR
      obtain ⟨o, eo', l', ws, e2, q0, q1, q2, q3⟩ := R'.sl i _ e
      rw [eo] at eo'
      cases eo'
      cases e2
      have hv : Dq K B' v d := R'.t _ List.mem_cons_self
      refine ⟨l, ws, v, rfl, rfl, q2, ?_, ?_⟩
      · rw [dpAll_len q3]
        exact Nat.lt_of_lt_of_le hz (by decide)
      · exact ab.nx _ _ _ hr ⟨B', (R'.mut e eo (dpAll_app q3 (.cons hv .nil))).sub fun _ h => nomatch h⟩
  · exact hp.elim
theorem ss_aug {te : TE} {ae : AE} {i : Nat} {f : Int → Int → Int} (h : Snd K W te ae) : SndS K W (tAug i te (ipI f)) (aAug f i ae) := by
  intro B0 H0 ss σ H D A R hp ab
  unfold aAug at hp
  split at hp
  · rename_i a e
    obtain ⟨B, R⟩ := R
    obtain ⟨o, eo, v, rfl, hv⟩ := R.sl i _ e
    cases hv
    refine ⟨.int a, eo, h B0 H0 [] ss σ H _ _ _ ⟨B, R⟩ hp (fun w r H' hr RR => ?_) fun c H' hx R' => ab.ex c ss σ H' hx R'⟩
    cases r with
    | ali _ => exact (show False from hr).elim
    | dat d => cases d with
      | int b =>
        obtain ⟨B', R'⟩ := RR
        have hw : Dq K B' w (.int b) := R'.t _ List.mem_cons_self
        cases hw
        exact ⟨a, b, rfl, rfl, ab.nx _ _ _ hr ⟨B', R'.setV (.int _) i⟩⟩
      | _ => exact (show False from hr).elim
  · exact hp.elim
theorem ss_raise {c : Value} : SndS K W (fun _ σ H => (fun _ H (Q : XK) => Q c none H) σ H fun cls d H' => W cls d σ H') (aRaise c) := fun B0 H0 ss σ H D A R h a => a.ex c ss σ H h R
theorem ss_never {ts : TS} : SndS K W ts aNever := fun B0 H0 ss σ H D A R h a => h.elim
theorem zip2 {rs : List TV} {vs : List V} {d e : PyData} (h : rs = [.dat d, .dat e]) (hl : vs.length = rs.length) : ∃ v w, vs = [v, w] := by
  subst h
  match vs, hl with
  | [v, w], _ => exact ⟨v, w, rfl⟩
theorem ss_par {ta : TA} {aa : AA} {i j : Nat} (h : SndA K W ta aa) : SndS K W (tPar i j ta) (aPar i j aa) := by
  intro B0 H0 ss σ H D A R hp ab
  refine h B0 H0 [] ss σ H _ _ _ R hp (fun vs rs H' hr hl R' => ?_) fun c H' hx R' => ab.ex c ss σ H' hx R'
  split at hr
  · rename_i d e
    obtain ⟨v, w, rfl⟩ := zip2 rfl hl
    obtain ⟨B, R'⟩ := R'
    have h1 : Dq K B v d := R'.t (v, .dat d) (by simp)
    have h2 : Dq K B w e := R'.t (w, .dat e) (by simp)
    exact ⟨v, w, rfl, ab.nx _ _ _ hr ⟨B, (R'.setV h1 i).setV h2 j⟩⟩
  · exact hr.elim
theorem zip3 {rs : List TV} {vs : List V} {d e f : PyData} (h : rs = [.dat d, .dat e, .dat f]) (hl : vs.length = rs.length) : ∃ v w u, vs = [v, w, u] := by
  subst h
  match vs, hl with
  | [v, w, u], _ => exact ⟨v, w, u, rfl⟩
theorem ss_par3 {ta : TA} {aa : AA} {i j l : Nat} (h : SndA K W ta aa) : SndS K W (tPar3 i j l ta) (aPar3 i j l aa) := by
  intro B0 H0 ss σ H D A R hp ab
  refine h B0 H0 [] ss σ H _ _ _ R hp (fun vs rs H' hr hl R' => ?_) fun c H' hx R' => ab.ex c ss σ H' hx R'
  split at hr
  · rename_i d e f
    obtain ⟨v, w, u, rfl⟩ := zip3 rfl hl
    obtain ⟨B, R'⟩ := R'
    have h1 : Dq K B v d := R'.t (v, .dat d) (by simp)
    have h2 : Dq K B w e := R'.t (w, .dat e) (by simp)
    have h3 : Dq K B u f := R'.t (u, .dat f) (by simp)
    exact ⟨v, w, u, rfl, ab.nx _ _ _ hr ⟨B, ((R'.setV h1 i).setV h2 j).setV h3 l⟩⟩
  · exact hr.elim
end

/-! ### targets -/
abbrev AG := PyData → List SV → (List SV → Prop) → Prop
abbrev AGs := List PyData → List SV → (List SV → Prop) → Prop
def agName (i : Nat) : AG := fun d ss k => k (ss.set i (.val d))
def agNil : AGs := fun ds ss k => match ds with
  | [] => k ss
  | _ => False
def agCons (g : AG) (gs : AGs) : AGs := fun ds ss k => match ds with
  | d :: r => g d ss fun s => gs r s k
  | _ => False
def agTup (n : Nat) (gs : AGs) : AG := fun d ss k => match d with
  | .tuple ds => ds.length = n ∧ gs ds ss k
  | _ => False
/-- outside of js nothing is stored -/
structure Only (js : List Nat) (σ σ' : L2.St) (ss ss' : List SV) : Prop where
  len : σ'.length = σ.length
  get : ∀ k, k ∉ js → σ'[k]? = σ[k]?
  gets : ∀ k, k ∉ js → ss'[k]? = ss[k]?
def SndG (K : PySem.W.Frag) (js : List Nat) (g : TG) (ag : AG) : Prop := ∀ (B0 H0 B H : Hp) (ss : List SV) (σ : L2.St) (v : V) (d : PyData) (k : List SV → Prop) (Q : L2.St → Hp → Prop), RepB K B0 H0 B H [] ss σ → Dq K B v d → ag d ss k →
  (∀ ss' σ', k ss' → RepB K B0 H0 B H [] ss' σ' → Only js σ σ' ss ss' → Q σ' H) → g v σ H Q
def SndGs (K : PySem.W.Frag) (js : List Nat) (g : TGs) (ag : AGs) : Prop := ∀ (B0 H0 B H : Hp) (ss : List SV) (σ : L2.St) (vs : List V) (ds : List PyData) (k : List SV → Prop) (Q : L2.St → Hp → Prop), RepB K B0 H0 B H [] ss σ → DqAll K B vs ds → ag ds ss k →
  (∀ ss' σ', k ss' → RepB K B0 H0 B H [] ss' σ' → Only js σ σ' ss ss' → Q σ' H) → g vs σ H Q
theorem Only.trans {js ks : List Nat} {a b c : L2.St} {s t u : List SV} (h : Only js a b s t) (h' : Only ks b c t u) : Only (js ++ ks) a c s u :=
  ⟨h'.1.trans h.1, fun k hk => (h'.2 k fun z => hk (List.mem_append_right _ z)).trans (h.2 k fun z => hk (List.mem_append_left _ z)), fun k hk => (h'.3 k fun z => hk (List.mem_append_right _ z)).trans (h.3 k fun z => hk (List.mem_append_left _ z))⟩
section
variable {K : PySem.W.Frag} {W : WX}
theorem sg_name {i : Nat} : SndG K [i] (gName i) (agName i) := fun B0 H0 B H ss σ v d k Q R hv h q =>
  q _ _ h (R.setV hv i) ⟨by rw [List.length_set], fun j hj => by rw [List.getElem?_set_ne (fun e => hj (by simp [e]))], fun j hj => by rw [List.getElem?_set_ne (fun e => hj (by simp [e]))]⟩
theorem sg_nil : SndGs K [] gNil agNil := fun B0 H0 B H ss σ vs ds k Q R hv h q => by
  cases hv with
  | nil => exact ⟨rfl, q ss σ h (R.sub fun _ h => nomatch h) ⟨rfl, fun _ _ => rfl, fun _ _ => rfl⟩⟩
  | cons _ _ => exact (show False from h).elim
theorem sg_cons {js ks : List Nat} {g : TG} {gs : TGs} {ag : AG} {ags : AGs} (h1 : SndG K js g ag) (h2 : SndGs K ks gs ags) : SndGs K (js ++ ks) (gCons g gs) (agCons ag ags) := fun B0 H0 B H ss σ vs ds k Q R hv h q => by
  cases hv with
  | nil => exact (show False from h).elim
  | cons r t =>
    refine ⟨_, _, rfl, h1 B0 H0 B H ss σ _ _ _ _ R r h fun ss1 σ1 hk R1 o1 => ?_⟩
    exact h2 B0 H0 B H ss1 σ1 _ _ k Q R1 t hk fun ss2 σ2 hk2 R2 o2 => q ss2 σ2 hk2 R2 (o1.trans o2)
theorem sg_tup {js : List Nat} {n : Nat} {gs : TGs} {ags : AGs} (h : SndGs K js gs ags) : SndG K js (gTup K n gs) (agTup n ags) := fun B0 H0 B H ss σ v d k Q R hv hk q => by
  cases hv with
  | tup hs ha => exact ⟨_, _, rfl, same_t R.g.i hs, (dpAll_len ha).trans hk.1, h B0 H0 B H ss σ _ _ k Q R ha hk.2 q⟩
  | _ => exact (show False from hk).elim
/-- target = value, the target a tuple of names -/
def aAsgT (ag : AG) (ae : AE) : AS := fun A ss => ae ss (fun t => match t with
  | .dat d => ag d ss A.nx
  | .ali _ => False) fun c => A.ex c ss
theorem ss_asgT {te : TE} {ae : AE} {js : List Nat} {g : TG} {ag : AG} (h : Snd K W te ae) (hg : SndG K js g ag) : SndS K W (tAsg te g) (aAsgT ag ae) := by
  intro B0 H0 ss σ H D A R hp ab
  refine h B0 H0 [] ss σ H _ _ _ R hp (fun v r H' hr RR => ?_) fun c H' hx R' => ab.ex c ss σ H' hx R'
  cases r with
  | ali _ => exact (show False from hr).elim
  | dat d =>
    obtain ⟨B, R'⟩ := RR
    exact hg B0 H0 B H' ss σ v d A.nx D.nx (R'.sub fun _ h => nomatch h) (R'.t _ List.mem_cons_self) hr fun ss' σ' hk R2 _ => ab.nx ss' σ' H' hk ⟨B, R2⟩
end

/-! ### what is walked -/
abbrev AI := List SV → (List PyData → Prop) → XP → Prop
def ItOk (K : PySem.W.Frag) (J : It) (B : Hp) (xs : List PyData) : Prop := ∀ (i : Nat) (Bc H : Hp), Same B Bc → Same Bc H →
  (∀ d, xs[i]? = some d → J.go i H ∧ ∀ x H', J.yld i H x H' → ∃ B', Grow Bc H B' H' ∧ Dq K B' x d) ∧ (xs.length ≤ i → J.stop i H)
def SndI (K : PySem.W.Frag) (W : WX) (wi : TI) (ai : AI) : Prop := ∀ (B0 H0 : Hp) (T : List (V × TV)) (ss : List SV) (σ : L2.St) (H : Hp) (P : List PyData → Prop) (Xe : XP) (R : It → Hp → Prop), Rep K B0 H0 T ss σ H → ai ss P Xe →
  (∀ J xs B H', P xs → RepB K B0 H0 B H' T ss σ → ItOk K J B xs → R J H') → (∀ c H', Xe c → Rep K B0 H0 T ss σ H' → W c none σ H') → wi σ H R
def iterD : PyData → Option (List PyData)
  | .list xs => some xs
  | .tuple xs => some xs
  | _ => none
/-- over a list or a tuple that stands -/
def aiL (ae : AE) : AI := fun ss P X => ae ss (fun t => match t with
  | .dat (.list xs) => P xs
  | _ => False) X
def aiT (ae : AE) : AI := fun ss P X => ae ss (fun t => match t with
  | .dat (.tuple xs) => P xs
  | _ => False) X
/-- over the script -/
def aiS (ae : AE) : AI := fun ss P X => ae ss (fun t => match t with
  | .dat (.dict [(.none, .list xs)]) => P xs
  | _ => False) X
def rangeD (lo : Int) (n : Nat) : List PyData := (List.range n).map fun k : Nat => .int (lo + (k : Int))
def aiR1 (aa : AA) : AI := fun ss P X => aa ss (fun rs => match rs with
  | [.dat (.int n)] => n < 2 ^ 62 ∧ -(2 ^ 62) ≤ n ∧ P (rangeD 0 n.toNat)
  | _ => False) X
def aiR2 (aa : AA) : AI := fun ss P X => aa ss (fun rs => match rs with
  | [.dat (.int lo), .dat (.int hi)] => (lo < 2 ^ 62 ∧ -(2 ^ 62) ≤ lo ∧ hi < 2 ^ 62 ∧ -(2 ^ 62) ≤ hi) ∧ P (rangeD lo (hi - lo).toNat)
  | _ => False) X
section
variable {K : PySem.W.Frag} {W : WX}
theorem rangeD_len (lo : Int) (n : Nat) : (rangeD lo n).length = n := by
  unfold rangeD
  rw [List.length_map, List.length_range]
theorem rangeD_get {lo : Int} {n i : Nat} {d : PyData} (h : (rangeD lo n)[i]? = some d) : i < n ∧ d = .int (lo + (i : Int)) := by
  unfold rangeD at h
  rw [List.getElem?_map] at h
  by_cases hi : i < n
  · rw [List.getElem?_eq_getElem (by rw [List.length_range]; exact hi), List.getElem_range] at h
    exact ⟨hi, (Option.some.inj h).symm⟩
  · rw [List.getElem?_eq_none (by rw [List.length_range]; omega)] at h
    cases h
theorem itok_list {a : Addr} {vs : List V} {xs : List PyData} {B : Hp} (ha : B a = some (.lst vs)) (da : DqAll K B vs xs) : ItOk K (Itl K a) B xs := by
  intro i Bc H s1 s2
  have hl : SqL K H a vs := sql_of (s2 _ _ (s1 _ _ ha))
  refine ⟨fun d hd => ?_, fun hi => ⟨vs, hl, by rw [dpAll_len da]; exact hi⟩⟩
  obtain ⟨v, hv, dv⟩ := dpAll_get da hd
  refine ⟨⟨vs, v, hl, hv⟩, fun x H' hy => ?_⟩
  obtain ⟨rfl, fy⟩ := hy
  have e := fy _ hl
  rw [hv] at e
  cases e
  exact ⟨Bc, Grow.refl s2, dp_mono s1 _ _ dv⟩
theorem itok_scr {a : Addr} {ns : List Int} {B : Hp} (ha : Scr K B a ns) : ItOk K (Itl K a) B (ns.map PyData.int) := by
  intro i Bc H s1 s2
  have hl : SqL K H a (ns.map V.int) := ((ha.mono s1).mono s2).sq
  refine ⟨fun d hd => ?_, fun hi => ⟨_, hl, by rw [List.length_map] at hi ⊢; exact hi⟩⟩
  obtain ⟨v, hv, dv⟩ := dpAll_get (K := K) (H := Bc) (dpAll_ints ns) hd
  refine ⟨⟨_, v, hl, hv⟩, fun x H' hy => ?_⟩
  obtain ⟨rfl, fy⟩ := hy
  have e := fy _ hl
  rw [hv] at e
  cases e
  exact ⟨Bc, Grow.refl s2, dv⟩
theorem itok_tup {a : Addr} {vs : List V} {xs : List PyData} {B : Hp} (ha : SqT K B a vs) (da : DqAll K B vs xs) : ItOk K (Itt K a) B xs := by
  intro i Bc H s1 s2
  have hl : SqT K H a vs := same_t s2 (same_t s1 ha)
  refine ⟨fun d hd => ?_, fun hi => ⟨vs, hl, by rw [dpAll_len da]; exact hi⟩⟩
  obtain ⟨v, hv, dv⟩ := dpAll_get da hd
  refine ⟨⟨vs, v, hl, hv⟩, fun x H' hy => ?_⟩
  obtain ⟨rfl, fy⟩ := hy
  have e := fy _ hl
  rw [hv] at e
  cases e
  exact ⟨Bc, Grow.refl s2, dp_mono s1 _ _ dv⟩
theorem itok_range {lo : Int} {n : Nat} {B : Hp} : ItOk K (Itr lo n) B (rangeD lo n) := by
  intro i Bc H s1 s2
  refine ⟨fun d hd => ?_, fun hi => ?_⟩
  · obtain ⟨hi, rfl⟩ := rangeD_get hd
    refine ⟨hi, fun x H' hy => ?_⟩
    obtain ⟨rfl, rfl⟩ := hy
    exact ⟨Bc, Grow.refl s2, .int _⟩
  · rw [rangeD_len] at hi
    exact hi
theorem si_list {te : TE} {ae : AE} (h : Snd K W te ae) : SndI K W (iList K te) (aiL ae) := by
  intro B0 H0 T ss σ H P Xe R Rp hp q x
  refine h B0 H0 T ss σ H _ Xe _ Rp hp (fun v r H' hr RR => ?_) x
  obtain ⟨B, RR⟩ := RR
  split at hr
  · rename_i xs
    have hv : Dq K B v (.list xs) := RR.t _ List.mem_cons_self
    cases hv with
    | lst hs ha => exact ⟨_, rfl, ⟨_, sql_of (RR.g.i _ _ hs)⟩, q _ xs B H' hr (RR.sub fun _ h => List.mem_cons_of_mem _ h) (itok_list hs ha)⟩
  · exact hr.elim
theorem si_scr {te : TE} {ae : AE} (h : Snd K W te ae) : SndI K W (iList K te) (aiS ae) := by
  intro B0 H0 T ss σ H P Xe R Rp hp q x
  refine h B0 H0 T ss σ H _ Xe _ Rp hp (fun v r H' hr RR => ?_) x
  obtain ⟨B, RR⟩ := RR
  split at hr
  · rename_i xs
    have hv : Dq K B v (.dict [(.none, .list xs)]) := RR.t _ List.mem_cons_self
    cases hv with
    | scr hs => exact ⟨_, rfl, ⟨_, (hs.mono RR.g.i).sq⟩, q _ _ B H' hr (RR.sub fun _ h => List.mem_cons_of_mem _ h) (itok_scr hs)⟩
  · exact hr.elim
theorem si_tup {te : TE} {ae : AE} (h : Snd K W te ae) : SndI K W (iTup K te) (aiT ae) := by
  intro B0 H0 T ss σ H P Xe R Rp hp q x
  refine h B0 H0 T ss σ H _ Xe _ Rp hp (fun v r H' hr RR => ?_) x
  obtain ⟨B, RR⟩ := RR
  split at hr
  · rename_i xs
    have hv : Dq K B v (.tuple xs) := RR.t _ List.mem_cons_self
    cases hv with
    | tup hs ha => exact ⟨_, rfl, ⟨_, same_t RR.g.i hs⟩, q _ xs B H' hr (RR.sub fun _ h => List.mem_cons_of_mem _ h) (itok_tup hs ha)⟩
  · exact hr.elim
theorem tv1 {vs : List V} {t : TV} (hl : vs.length = [t].length) : ∃ v, vs = [v] := by
  match vs, hl with
  | [v], _ => exact ⟨v, rfl⟩
theorem tv2 {vs : List V} {t u : TV} (hl : vs.length = [t, u].length) : ∃ v w, vs = [v, w] := by
  match vs, hl with
  | [v, w], _ => exact ⟨v, w, rfl⟩
theorem si_r1 {ta : TA} {aa : AA} (h : SndA K W ta aa) : SndI K W (iRng1 ta) (aiR1 aa) := by
  intro B0 H0 T ss σ H P Xe R Rp hp q x
  refine h B0 H0 T ss σ H _ Xe _ Rp hp (fun vs rs H' hr hl RR => ?_) x
  obtain ⟨B, RR⟩ := RR
  split at hr
  · rename_i n
    obtain ⟨v, rfl⟩ := tv1 hl
    have hv : Dq K B v (.int n) := RR.t (v, .dat (.int n)) (by simp)
    cases hv
    exact ⟨n, rfl, hr.2.1, hr.1, q _ _ B H' hr.2.2 (RR.sub fun _ h => List.mem_append_right _ h) itok_range⟩
  · exact hr.elim
theorem si_r2 {ta : TA} {aa : AA} (h : SndA K W ta aa) : SndI K W (iRng2 ta) (aiR2 aa) := by
  intro B0 H0 T ss σ H P Xe R Rp hp q x
  refine h B0 H0 T ss σ H _ Xe _ Rp hp (fun vs rs H' hr hl RR => ?_) x
  obtain ⟨B, RR⟩ := RR
  split at hr
  · rename_i lo hi
    obtain ⟨v, w, rfl⟩ := tv2 hl
    have hv : Dq K B v (.int lo) := RR.t (v, .dat (.int lo)) (by simp)
    have hw : Dq K B w (.int hi) := RR.t (w, .dat (.int hi)) (by simp)
    cases hv
    cases hw
    exact ⟨lo, hi, rfl, ⟨hr.1.2.1, hr.1.1, hr.1.2.2.2, hr.1.2.2.1⟩, q _ _ B H' hr.2 (RR.sub fun _ h => List.mem_append_right _ h) itok_range⟩
  · exact hr.elim

/-! ### for, while -/
def aFor (ai : AI) (ag : AG) (body : AS) : AS := fun A ss => ai ss (fun xs => ∃ Iv : Nat → List SV → Prop, Iv 0 ss ∧
  (∀ k d s, xs[k]? = some d → Iv k s → ag d s fun s' => body { A with nx := Iv (k + 1), ct := Iv (k + 1), bk := A.nx } s') ∧ (∀ s, Iv xs.length s → A.nx s)) fun c => A.ex c ss
theorem ss_for {wi : TI} {ai : AI} {js : List Nat} {g : TG} {ag : AG} {tb : TS} {body : AS} (hi : SndI K W wi ai) (hg : SndG K js g ag) (hb : SndS K W tb body) : SndS K W (tFor wi g tb) (aFor ai ag body) := by
  intro B0 H0 ss σ H D A R hp ab
  refine hi B0 H0 [] ss σ H _ _ _ R hp (fun J xs B H1 hP R1 ok => ?_) fun c H' hx R' => ab.ex c ss σ H' hx R'
  obtain ⟨Iv, i0, turn, done⟩ := hP
  have ab1 : Abs K B H0 W D A := ab.base R1.g
  refine ⟨fun i m σ H => m = xs.length - i ∧ i ≤ xs.length ∧ ∃ s, Iv i s ∧ Rep K B H0 [] s σ H, ⟨xs.length, rfl, Nat.zero_le _, ss, i0, B, R1.base⟩, fun i m σ2 H2 hW => ?_⟩
  obtain ⟨rfl, hi, s, hs, Bc, Rc⟩ := hW
  obtain ⟨ok1, ok2⟩ := ok i Bc H2 Rc.g.b Rc.g.i
  by_cases hlt : i < xs.length
  · obtain ⟨hgo, hy⟩ := ok1 xs[i] (List.getElem?_eq_getElem hlt)
    refine .inr ⟨hgo, fun σ' H' => ∃ s, Iv (i + 1) s ∧ Rep K B H0 [] s σ' H', fun σ' H' ⟨s', hs', R'⟩ => ⟨xs.length - (i + 1), by omega, rfl, hlt, s', hs', R'⟩, fun x H' yl => ?_⟩
    obtain ⟨B', gr, dx⟩ := hy x H' yl
    refine hg B H0 B' H' s σ2 x xs[i] _ _ (Rc.grow gr) dx (turn i xs[i] s (List.getElem?_eq_getElem hlt) hs) fun ss' σ' hk R' _ => ?_
    exact hb B H0 ss' σ' H' _ _ ⟨B', R'⟩ hk ⟨fun s σ H h R => ⟨s, h, R⟩, ab1.rt, ab1.nx, fun s σ H h R => ⟨s, h, R⟩, ab1.ex⟩
  · have e : i = xs.length := by omega
    subst e
    exact .inl ⟨ok2 (Nat.le_refl _), ab1.nx s σ2 H2 (done s hs) ⟨Bc, Rc⟩⟩
def aWhile (t : AT) (body : AS) : AS := fun A ss => ∃ M : Nat → List SV → Prop, (∃ m, M m ss) ∧ ∀ m s, M m s → t s (fun b => if b = true then body { A with nx := fun s' => ∃ m', m' < m ∧ M m' s', ct := fun s' => ∃ m', m' < m ∧ M m' s', bk := A.nx } s else A.nx s) fun c => A.ex c s
theorem ss_while {t : TT} {at_ : AT} {tb : TS} {body : AS} (ht : SndT K W t at_) (hb : SndS K W tb body) : SndS K W (tWhile t tb) (aWhile at_ body) := by
  intro B0 H0 ss σ H D A R hp ab
  obtain ⟨M, ⟨m0, h0⟩, turn⟩ := hp
  refine ⟨fun m σ H => ∃ s, M m s ∧ Rep K B0 H0 [] s σ H, ⟨m0, ss, h0, R⟩, fun m σ1 H1 ⟨s, hs, R1⟩ => ?_⟩
  refine ht B0 H0 [] s σ1 H1 _ _ _ R1 (turn m s hs) (fun b H2 hb2 R2 => ?_) fun c H' hx R' => ab.ex c s σ1 H' hx R'
  cases b with
  | true =>
    refine iteT ⟨fun σ' H' => ∃ m', m' < m ∧ ∃ s, M m' s ∧ Rep K B0 H0 [] s σ' H', fun σ' H' ⟨m', hm, s', h1, h2⟩ => ⟨m', hm, s', h1, h2⟩, ?_⟩
    have hb3 : body { A with nx := fun s' => ∃ m', m' < m ∧ M m' s', ct := fun s' => ∃ m', m' < m ∧ M m' s', bk := A.nx } s := by simpa using hb2
    exact hb B0 H0 s σ1 H2 _ _ R2 hb3 ⟨fun s σ H ⟨m', hm, h⟩ R => ⟨m', hm, s, h, R⟩, ab.rt, ab.nx, fun s σ H ⟨m', hm, h⟩ R => ⟨m', hm, s, h, R⟩, ab.ex⟩
  | false => exact iteF (ab.nx s σ1 H2 (by simpa using hb2) R2)
end
end AB
namespace AB
open PySem PySem.Spec PyProof.Rows L2

/-! ### list comprehensions -/
def noOwnB : SV → Bool
  | .lst _ => false
  | .drw _ => false
  | _ => true
def noOwn (ss : List SV) (vs : List Nat) : Bool := vs.all fun j => match ss[j]? with
  | some s => noOwnB s
  | none => true
def wipeS (ss : List SV) : List Nat → List SV
  | [] => ss
  | v :: vs => (wipeS ss vs).set v .no
theorem wipeS_length (ss : List SV) : ∀ vs : List Nat, (wipeS ss vs).length = ss.length
  | [] => rfl
  | v :: vs => by unfold wipeS; rw [List.length_set, wipeS_length ss vs]
theorem wipeS_out {ss : List SV} {k : Nat} : ∀ {vs : List Nat}, k ∉ vs → (wipeS ss vs)[k]? = ss[k]?
  | [], _ => rfl
  | v :: vs, h => by
    unfold wipeS
    rw [List.getElem?_set_ne (fun e => h (by simp [e])), wipeS_out (fun z => h (List.mem_cons_of_mem _ z))]
theorem wipeS_in {ss : List SV} {k : Nat} : ∀ {vs : List Nat}, k ∈ vs → ∀ s, (wipeS ss vs)[k]? = some s → s = .no
  | [], h, _, _ => by cases h
  | v :: vs, h, s, e => by
    unfold wipeS at e
    by_cases hv : v = k
    · subst hv
      rw [List.getElem?_set, if_pos rfl] at e
      split at e
      · cases e; rfl
      · cases e
    · rw [List.getElem?_set_ne hv] at e
      rcases List.mem_cons.mp h with z | z
      · exact absurd z.symm hv
      · exact wipeS_in z s e
theorem wipe_out {σ : L2.St} {k : Nat} : ∀ {vs : List Nat}, k ∉ vs → (wipe σ vs)[k]? = σ[k]?
  | [], _ => rfl
  | v :: vs, h => by
    unfold wipe
    rw [List.getElem?_set_ne (fun e => h (by simp [e])), wipe_out (fun z => h (List.mem_cons_of_mem _ z))]
theorem wipe_in {σ : L2.St} {k : Nat} : ∀ {vs : List Nat}, k ∈ vs → k < σ.length → (wipe σ vs)[k]? = some none
  | [], h, _ => by cases h
  | v :: vs, h, hl => by
    unfold wipe
    by_cases hv : v = k
    · subst hv
      rw [List.getElem?_set, if_pos rfl, if_pos (by rw [wipe_length]; exact hl)]
    · rw [List.getElem?_set_ne hv]
      rcases List.mem_cons.mp h with z | z
      · exact absurd z.symm hv
      · exact wipe_in z hl
theorem wipe_only {σ σ' : L2.St} {vs js : List Nat} {s s' : List SV} (o : Only js (wipe σ vs) σ' s s') (h : ∀ j ∈ js, j ∈ vs) : wipe σ' vs = wipe σ vs := by
  have hl : σ'.length = σ.length := by rw [o.len, wipe_length]
  apply List.ext_getElem?
  intro k
  by_cases hk : k ∈ vs
  · by_cases hb : k < σ.length
    · rw [wipe_in hk hb, wipe_in hk (by rw [hl]; exact hb)]
    · rw [List.getElem?_eq_none (by rw [wipe_length, hl]; omega), List.getElem?_eq_none (by rw [wipe_length]; omega)]
  · rw [wipe_out hk, o.get k fun z => hk (h k z)]
theorem noOwn_at {ss : List SV} {vs : List Nat} (h : noOwn ss vs = true) {k : Nat} (hk : k ∈ vs) {s : SV} (e : ss[k]? = some s) : noOwnB s = true := by
  unfold noOwn at h
  have q := List.all_eq_true.mp h k hk
  rw [e] at q
  exact q
section
variable {K : PySem.W.Frag} {W W' : WX} {B0 H0 B H B' H' : Hp} {T : List (V × TV)} {ss ss' : List SV} {σ σ' : L2.St} {D : Addr} {u : HO}
theorem sl_base {s : SV} {o : Option V} (h : Sl K H0 B H s o) (n : ¬ Own s o D) : Sl K (upd H0 D u) B H s o := by
  cases s with
  | no => trivial
  | val d => exact h
  | lst xs =>
    obtain ⟨l, vs, rfl, h0, h1⟩ := h
    exact ⟨l, vs, rfl, by rw [upd_ne (fun z => n (by rw [z] <;> rfl))]; exact h0, h1⟩
  | drw l =>
    obtain ⟨rfl, h0, h1⟩ := h
    exact ⟨rfl, by rw [upd_ne (fun z => n (by rw [z] <;> rfl))]; exact h0, h1⟩
theorem upd_none {a : Addr} (h : upd H D u a = none) : a ≠ D ∧ H a = none := by
  by_cases e : a = D
  · subst e
    rw [upd_same] at h
    cases h
  · rw [upd_ne e] at h
    exact ⟨e, h⟩
theorem sl_unbase {s : SV} {o : Option V} (h : Sl K (upd H0 D u) B H s o) : Sl K H0 B H s o := by
  cases s with
  | no => trivial
  | val d => exact h
  | lst xs =>
    obtain ⟨l, vs, rfl, h0, h1⟩ := h
    exact ⟨l, vs, rfl, (upd_none h0).2, h1⟩
  | drw l =>
    obtain ⟨rfl, h0, h1⟩ := h
    exact ⟨rfl, (upd_none h0).2, h1⟩
/-- into the block: the block's own names forgotten, the new list at D kept as it is -/
theorem rep_in (R : RepB K B0 H0 B H T ss σ) (vs : List Nat) (hD : H D = some u) (nB : B D = none) (ap : ∀ (k : Nat) s o, ss[k]? = some s → σ[k]? = some o → ¬ Own s o D) : RepB K B (upd H0 D u) B H [] (wipeS ss vs) (wipe σ vs) := by
  have out : ∀ {k : Nat} {s : SV}, (wipeS ss vs)[k]? = some s → (k ∈ vs ∧ s = .no) ∨ (k ∉ vs ∧ ss[k]? = some s) := fun {k s} e => by
    by_cases hk : k ∈ vs
    · exact .inl ⟨hk, wipeS_in hk s e⟩
    · rw [wipeS_out hk] at e
      exact .inr ⟨hk, e⟩
  refine ⟨⟨Same.refl B, R.g.i, fun a o e => ?_, fun l h0 h1 => h1⟩, by rw [wipeS_length, wipe_length]; exact R.len, fun k s e => ?_, fun p hp => (nomatch hp), fun i j si sj oi oj l e1 e2 e3 e4 w1 w2 => ?_⟩
  · by_cases ha : a = D
    · subst ha
      rw [upd_same] at e
      rw [hD]
      exact e
    · rw [upd_ne ha] at e
      exact R.g.h a o e
  · rcases out e with ⟨hk, rfl⟩ | ⟨hk, e'⟩
    · have hl : k < σ.length := by
        have := (List.getElem?_eq_some_iff.mp e).1
        rw [wipeS_length] at this
        rw [← R.len]
        exact this
      exact ⟨none, wipe_in hk hl, trivial⟩
    · obtain ⟨o, e1, h⟩ := R.sl k s e'
      exact ⟨o, by rw [wipe_out hk]; exact e1, sl_base h (ap k s o e' e1)⟩
  · rcases out e1 with ⟨hk, rfl⟩ | ⟨hi, e1'⟩
    · exact w1.elim
    · rcases out e2 with ⟨hk, rfl⟩ | ⟨hj, e2'⟩
      · exact w2.elim
      · rw [wipe_out hi] at e3
        rw [wipe_out hj] at e4
        exact R.ap i j si sj oi oj l e1' e2' e3 e4 w1 w2
/-- out of the block -/
theorem rep_out {vs js : List Nat} (R : RepB K B0 H0 B H T ss σ) (no : noOwn ss vs = true) (nB : B D = none) (n0 : H0 D = none) (o : Only js (wipe σ vs) σ' (wipeS ss vs) ss') (hj : ∀ j ∈ js, j ∈ vs) {T' : List (V × TV)} (R' : RepB K B (upd H0 D u) B' H' T' ss' σ') : RepB K B0 H0 B' H' T ss σ := by
  refine ⟨⟨R.g.b.trans R'.g.b, R'.g.i, fun a x e => R'.g.h a x ?_, fun l h0 h1 => R'.g.n l (fun z => h0 (upd_none z).2) (R.g.n l h0 h1)⟩, R.len, fun k s e => ?_, fun p hp => tok_grow R'.g.b (R.t p hp), R.ap⟩
  · rw [upd_ne (fun z => by rw [z, n0] at e; cases e)]
    exact e
  · obtain ⟨ok, e1, h⟩ := R.sl k s e
    refine ⟨ok, e1, ?_⟩
    by_cases hk : k ∈ vs
    · have nb := noOwn_at no hk e
      cases s with
      | no => trivial
      | val d =>
        obtain ⟨v, ev, hv⟩ := h
        exact ⟨v, ev, dp_mono R'.g.b _ _ hv⟩
      | lst xs => cases nb
      | drw l => cases nb
    · have kj : k ∉ js := fun z => hk (hj k z)
      have es : ss'[k]? = some s := by rw [o.gets k kj, wipeS_out hk]; exact e
      obtain ⟨o', e2, h2⟩ := R'.sl k s es
      rw [o.get k kj, wipe_out hk, e1] at e2
      cases e2
      exact sl_unbase h2
/-- a thing that is no slot's is written -/
theorem rep_wr {x : HO} (R : RepB K B0 H0 B H T ss σ) (nB : B D = none) (n0 : H0 D = none) (ap : ∀ (k : Nat) s o, ss[k]? = some s → σ[k]? = some o → ¬ Own s o D) : RepB K B0 H0 B (upd H D x) T ss σ := by
  refine ⟨⟨R.g.b, fun a y e => ?_, fun a y e => ?_, R.g.n⟩, R.len, fun k s e => ?_, R.t, R.ap⟩
  · rw [upd_ne (fun z => by rw [z, nB] at e; cases e)]
    exact R.g.i a y e
  · rw [upd_ne (fun z => by rw [z, n0] at e; cases e)]
    exact R.g.h a y e
  · obtain ⟨o, e1, h⟩ := R.sl k s e
    have na := ap k s o e e1
    refine ⟨o, e1, ?_⟩
    cases s with
    | no => trivial
    | val d => exact h
    | lst xs =>
      obtain ⟨l, vs, rfl, h0, h1, h2, h3⟩ := h
      exact ⟨l, vs, rfl, h0, h1, by rw [upd_ne (fun z => na (by rw [z] <;> rfl))]; exact h2, h3⟩
    | drw l =>
      obtain ⟨rfl, h0, h1, ns, h2, h3⟩ := h
      exact ⟨rfl, h0, h1, ns, by rw [upd_ne (fun z => na (by rw [z] <;> rfl))]; exact h2, h3⟩
def aYes : AT := fun _ P _ => P true
theorem snd_yes : SndT K W tYes aYes := fun B0 H0 T ss σ H P Xe Q R hp q x => q true H hp R
def aLc (ai : AI) (ag : AG) (at_ : AT) (ae : AE) (vs : List Nat) : AR := fun ss P X => noOwn ss vs = true ∧ ai ss (fun xs => xs.length ≤ 200000 ∧ ∃ Iv : Nat → List PyData → Prop, Iv 0 [] ∧
  (∀ k d acc, xs[k]? = some d → Iv k acc → ag d (wipeS ss vs) fun s2 => at_ s2 (fun b => if b = true then ae s2 (fun t => match t with
    | .dat y => Iv (k + 1) (acc ++ [y])
    | .ali _ => False) (fun _ => False) else Iv (k + 1) acc) fun _ => False) ∧ ∀ acc, Iv xs.length acc → P (.new acc)) X
theorem snd_lc {wi : TI} {ai : AI} {js : List Nat} {g : TG} {ag : AG} {tt : TT} {at_ : AT} {te : TE} {ae : AE} {vs : List Nat} (hi : SndI K W wi ai) (hg : SndG K js g ag) (ht : SndT K W' tt at_) (he : Snd K W' te ae) (hj : ∀ j ∈ js, j ∈ vs) : SndR K W (tLc wi g tt te vs) (aLc ai ag at_ ae vs) := by
  intro B0 H0 T ss σ H P Xe Q R hp q x
  obtain ⟨no, hp⟩ := hp
  refine hi B0 H0 T ss σ H _ Xe _ R hp (fun J xs B H1 hP R1 ok D hD => ?_) x
  obtain ⟨hz, Iv, i0, turn, done⟩ := hP
  have n0 : H0 D = none := Same.free R1.g.h hD
  have ap : ∀ (k : Nat) s o, ss[k]? = some s → σ[k]? = some o → ¬ Own s o D := fun k s o e1 e2 w => by
    obtain ⟨o', e3, h⟩ := R1.sl k s e1
    rw [e2] at e3
    cases e3
    exact (own_at h w).2.2 hD
  refine ⟨fun i m H' => m = xs.length - i ∧ i ≤ xs.length ∧ ∃ Bc vl acc, RepB K B0 H0 Bc H' T ss σ ∧ Same B Bc ∧ Bc D = none ∧ H' D = some (.lst vl) ∧ DqAll K Bc vl acc ∧ acc.length ≤ i ∧ Iv i acc, ⟨xs.length, rfl, Nat.zero_le _, B, [], [], R1.grow (Grow.own R1.g.i hD), Same.refl B, Same.free R1.g.i hD, upd_same, .nil, Nat.zero_le _, i0⟩, fun i m H2 hW => ?_⟩
  obtain ⟨rfl, hi, Bc, vl, acc, Rc, sb, nB, hl, da, hlen, iv⟩ := hW
  obtain ⟨ok1, ok2⟩ := ok i Bc H2 sb Rc.g.i
  by_cases hlt : i < xs.length
  · obtain ⟨hgo, hy⟩ := ok1 xs[i] (List.getElem?_eq_getElem hlt)
    refine .inr ⟨hgo, fun H' => ∃ Bc vl acc, RepB K B0 H0 Bc H' T ss σ ∧ Same B Bc ∧ Bc D = none ∧ H' D = some (.lst vl) ∧ DqAll K Bc vl acc ∧ acc.length ≤ i + 1 ∧ Iv (i + 1) acc, fun H' ⟨B', vl', acc', h⟩ => ⟨xs.length - (i + 1), by omega, rfl, hlt, B', vl', acc', h⟩, fun y H' yl => ?_⟩
    obtain ⟨B', gr, dx⟩ := hy y H' yl
    have R' := Rc.grow gr
    have hl' : H' D = some (.lst vl) := gr.h _ _ hl
    have nB' : B' D = none := gr.n D (by rw [hl]; exact fun z => nomatch z) nB
    have da' := dpAll_mono gr.b _ _ da
    have sb' := sb.trans gr.b
    refine hg B' (upd H0 D (.lst vl)) B' H' _ _ y xs[i] _ _ (rep_in R' vs hl' nB' ap) dx (turn i xs[i] acc (List.getElem?_eq_getElem hlt) iv) fun ss' σ' hk R2 o => ?_
    refine ⟨wipe_only o hj, ?_⟩
    refine ht B' (upd H0 D (.lst vl)) [] ss' σ' H' _ _ _ ⟨B', R2⟩ hk (fun b H3 hb R3 => ?_) fun c H' hx _ => (show False from hx).elim
    cases b with
    | true =>
      refine iteT (he B' (upd H0 D (.lst vl)) [] ss' σ' H3 _ _ _ R3 (by simpa using hb) (fun w r H4 hr R4 => ?_) fun c H' hx _ => (show False from hx).elim)
      cases r with
      | ali _ => exact (show False from hr).elim
      | dat d =>
        obtain ⟨B4, R4⟩ := R4
        have hw : Dq K B4 w d := R4.t _ List.mem_cons_self
        have hl4 : H4 D = some (.lst vl) := R4.g.h _ _ upd_same
        have nB4 : B4 D = none := R4.g.n D (by rw [upd_same]; exact fun z => nomatch z) nB'
        have RO := rep_out (D := D) R' no nB' n0 o hj R4
        refine ⟨vl, hl4, ?_, B4, vl ++ [w], acc ++ [d], rep_wr RO nB4 n0 ap, sb'.trans R4.g.b, nB4, upd_same, dpAll_app (dpAll_mono R4.g.b _ _ da') (.cons hw .nil), ?_, hr⟩
        · rw [dpAll_len da]
          have h1 : acc.length ≤ 200000 := by omega
          exact Nat.lt_of_le_of_lt h1 (by decide)
        · rw [List.length_append, List.length_singleton]
          omega
    | false =>
      obtain ⟨B3, R3⟩ := R3
      have hl3 : H3 D = some (.lst vl) := R3.g.h _ _ upd_same
      have nB3 : B3 D = none := R3.g.n D (by rw [upd_same]; exact fun z => nomatch z) nB'
      exact iteF ⟨B3, vl, acc, rep_out (D := D) R' no nB' n0 o hj R3, sb'.trans R3.g.b, nB3, hl3, dpAll_mono R3.g.b _ _ da', by omega, by simpa using hb⟩
  · have e : i = xs.length := by omega
    subst e
    exact .inl ⟨ok2 (Nat.le_refl _), q (.ref D) (.new acc) H2 (done acc iv) ⟨Bc, Rc, ⟨D, vl, rfl, n0, nB, hl, da⟩, .inr fun l e k s o e1 e2 => by cases e; exact ap k s o e1 e2⟩⟩
end
end AB
namespace AB
open PySem PySem.Spec PyProof.Rows L2

/-! ### a def of the text keeps its promise -/
def startS (N : List Str) (ds : List PyData) : List SV := ds.map SV.val ++ List.replicate (N.length - ds.length) SV.no
def endA (P : RV → Prop) (Xe : XP) : AD := ⟨fun _ => P (.dat .none), fun r _ => P r, fun _ => False, fun _ => False, fun c _ => Xe c⟩
section
variable {K : PySem.W.Frag} {B H : Hp}
theorem rep_start {N : List Str} {vs : List V} {ds : List PyData} (i : Same B H) (h : DqAll K B vs ds) : RepB K B H B H [] (startS N ds) (L2.start N vs) := by
  have hl := dpAll_len h
  have at_ : ∀ {k : Nat} {s : SV}, (startS N ds)[k]? = some s → ∃ o, (L2.start N vs)[k]? = some o ∧ ((s = .no) ∨ ∃ d v, s = .val d ∧ o = some v ∧ Dq K B v d) := fun {k s} e => by
    unfold startS at e
    by_cases hk : k < ds.length
    · rw [List.getElem?_append_left (by rw [List.length_map]; exact hk), List.getElem?_map, List.getElem?_eq_getElem hk] at e
      obtain ⟨v, hv, dv⟩ := dpAll_get h (List.getElem?_eq_getElem hk)
      refine ⟨some v, ?_, .inr ⟨_, v, (Option.some.inj e).symm, rfl, dv⟩⟩
      unfold L2.start
      rw [List.getElem?_append_left (by rw [List.length_map, hl]; exact hk), List.getElem?_map, hv]
      rfl
    · rw [List.getElem?_append_right (by rw [List.length_map]; omega), List.length_map, List.getElem?_replicate] at e
      split at e
      · rename_i hr
        refine ⟨none, ?_, .inl (Option.some.inj e).symm⟩
        unfold L2.start
        rw [List.getElem?_append_right (by rw [List.length_map, hl]; omega), List.length_map, List.getElem?_replicate, hl, if_pos hr]
      · cases e
  refine ⟨Grow.refl i, ?_, fun k s e => ?_, fun p hp => (nomatch hp), fun x y sx sy ox oy l e1 e2 e3 e4 w1 w2 => ?_⟩
  · unfold startS L2.start
    rw [List.length_append, List.length_append, List.length_map, List.length_map, List.length_replicate, List.length_replicate, hl]
  · obtain ⟨o, eo, h | ⟨d, v, rfl, rfl, hv⟩⟩ := at_ e
    · subst h
      exact ⟨o, eo, trivial⟩
    · exact ⟨_, eo, v, rfl, hv⟩
  · obtain ⟨o, eo, h | ⟨d, v, rfl, rfl, hv⟩⟩ := at_ e1
    · subst h
      exact w1.elim
    · exact w1.elim
theorem repV_of {B0 H0 : Hp} {v : V} {r : RV} (h : RepV K H0 B H v r) : RepV K H0 B H v r := h
end
section
variable {P : Program} {w : World} {K : PySem.W.Frag} {mg : Str → Option Value} {base : Heap}
abbrev WF (E : XK) : WX := fun cls d _ H => E cls d H
/-- the context of a def's body -/
abbrev cxB (P : Program) (w : World) (K : PySem.W.Frag) (mg : Str → Option Value) (base : Heap) (N : List Str) (qual : Str) (st : Stmt) (f : Addr) (cdv : Value) (A : Around) (outer : List Env) (s : Shared) (H : Hp) (E : XK) : Cx :=
  cxOf (L2N.CX P w) P w K mg base N qual (defScope st) f cdv A outer s H E
theorem takesF {N : List Str} {qual : Str} {st : Stmt} {f : Addr} {cdv : Value} {A : Around} {outer : List Env} {s : Shared} {H : Hp} {E : XK} : L2N.Takes (cxB P w K mg base N qual st f cdv A outer s H E) (WF E) := L2N.takes_of rfl rfl rfl rfl
theorem passF {N : List Str} {qual : Str} {st : Stmt} {f : Addr} {cdv : Value} {A : Around} {outer : List Env} {s : Shared} {H : Hp} {E : XK} : PassesOwn (model P w) (cxB P w K mg base N qual st f cdv A outer s H E).A (cxB P w K mg base N qual st f cdv A outer s H E).env (cxB P w K mg base N qual st f cdv A outer s H E).xe := PassesOwn.leaving
theorem okN {x qual : Str} {st : Stmt} {f : Addr} {fd : FuncData} {N ps : List Str} {k : Nat} {ft : FT} (F : Fun K x qual st f fd) (S : FnScope N ps (defScope st)) (hlen : ∀ ds P X, ft ds P X → ds.length = ps.length)
    (body : ∀ (cdv : Value) (A : Around) (outer : List Env) (s : Shared) (H : Hp) (E : XK), Room k (A.deeper (envOfC qual (defScope st) s.heap.objs.size f cdv)) →
      ∃ as, QSs (cxB P w K mg base N qual st f cdv A outer s H E) (WF E) (defBody st) as ∧ ∀ ds Q Xe, ft ds Q Xe → as (endA Q Xe) (startS N ds)) : FnOk P w K mg base (L2N.CX P w) (k + 1) f fd ps (spD K ft) := by
  obtain ⟨oc, od, kV, doc, pm, an, cdv, ct, osl, rfl, lk, hcd⟩ := F.ex
  refine fn_of lk hcd S (fun vs H Q E h => ?_) fun A outer s H vs Q E hr hsp => ?_
  · obtain ⟨B, ds, P', X', sb, da, hf, _⟩ := h
    rw [dpAll_len da]
    exact hlen ds _ _ hf
  · obtain ⟨B, ds, P', X', sb, da, hf, hq, hx⟩ := hsp
    obtain ⟨as, ⟨ts, hp, hs⟩, hb⟩ := body cdv A outer s H E hr
    refine ⟨ts, hp, hs B H _ _ H _ (endA P' X') ⟨B, rep_start sb da⟩ (hb ds P' X' hf) ⟨fun ss σ H' h R => ?_, fun r ss σ H' v h R => ?_, fun ss σ H' h R => h.elim, fun ss σ H' h R => h.elim, fun c ss σ H' h R => ?_⟩⟩
    · obtain ⟨B', R⟩ := R
      exact hq .non (.dat .none) B' H' h R.g .non
    · obtain ⟨B', R, rv⟩ := R
      exact hq v r B' H' h R.g rv
    · obtain ⟨B', R⟩ := R
      exact hx c B' H' h R.g

/-! ### defs whose first argument is the draws -/
def wo (H : Hp) (l : Addr) : Hp := fun a => if a = l then none else H a
theorem wo_same {H : Hp} {l : Addr} : wo H l l = none := by unfold wo; rw [if_pos rfl]
theorem wo_ne {H : Hp} {l a : Addr} (h : a ≠ l) : wo H l a = H a := by unfold wo; rw [if_neg h]
theorem wo_sub {H : Hp} {l : Addr} : Same (wo H l) H := fun a o e => by
  by_cases h : a = l
  · subst h
    rw [wo_same] at e
    cases e
  · rw [wo_ne h] at e
    exact e
def spR (K : PySem.W.Frag) (ft : FT) : Sp := fun vs H Q E => ∃ l vr B ds P X, vs = V.ref l :: vr ∧ DrawsAt H l ∧ B l = none ∧ Same B H ∧ DqAll K B vr ds ∧ ft ds P X ∧
  (∀ v d B' H', P (.dat d) → Grow B (wo H l) B' H' → B' l = none → DrawsAt H' l → Dq K B' v d → Q v H') ∧ (∀ c B' H', X c → Grow B (wo H l) B' H' → B' l = none → DrawsAt H' l → E c none H')
def aCallR (ft : FT) (aa : AA) : AR := fun ss P X => aa ss (fun rs => match rs with
  | .ali i :: r => match ss[i]?, datAll r with
    | some (.drw _), some ds => ft ds P X
    | _, _ => False
  | _ => False) X
section
variable {B0 H0 B H B' H' : Hp} {T : List (V × TV)} {ss : List SV} {σ : L2.St} {l : Addr} {i : Nat}
theorem rep_drawn (R : RepB K B0 H0 B H T ss σ) (hi : ss[i]? = some (.drw l)) (g : Grow B (wo H l) B' H') (nb : B' l = none) (hd : DrawsAt H' l) : RepB K B0 H0 B' H' T ss σ := by
  obtain ⟨o, eo, rfl, h0, h1, h2⟩ := R.sl i _ hi
  refine ⟨⟨R.g.b.trans g.b, g.i, fun a x e => g.h a x ?_, fun m q0 q1 => g.n m (fun z => ?_) (R.g.n m q0 q1)⟩, R.len, fun k s e => ?_, fun p hp => tok_grow g.b (R.t p hp), R.ap⟩
  · rw [wo_ne (fun z => by rw [z, h0] at e; cases e)]
    exact R.g.h a x e
  · have nm : m ≠ l := fun q => q0 (by rw [q]; exact h0)
    rw [wo_ne nm] at z
    cases q : H0 m with
    | none => exact q0 q
    | some y =>
      rw [R.g.h m y q] at z
      cases z
  · obtain ⟨ok, e1, h⟩ := R.sl k s e
    refine ⟨ok, e1, ?_⟩
    have apart : i ≠ k → ∀ m, Own s ok m → m ≠ l := fun ne m w z => ne (R.ap i k _ _ _ _ l hi e eo e1 rfl (by rw [← z]; exact w))
    cases s with
    | no => trivial
    | val d =>
      obtain ⟨v, ev, hv⟩ := h
      exact ⟨v, ev, dp_mono g.b _ _ hv⟩
    | lst xs =>
      obtain ⟨m, vs, rfl, q0, q1, q2, q3⟩ := h
      have ne : m ≠ l := apart (fun z => by subst z; rw [hi] at e; cases e) m rfl
      exact ⟨m, vs, rfl, q0, g.n m (by rw [wo_ne ne, q2]; exact fun z => nomatch z) q1, g.h _ _ (by rw [wo_ne ne]; exact q2), dpAll_mono g.b _ _ q3⟩
    | drw m =>
      obtain ⟨rfl, q0, q1, ns, q2, q3⟩ := h
      by_cases hk : i = k
      · subst hk
        rw [hi] at e
        cases e
        exact ⟨rfl, q0, nb, hd⟩
      · have ne : m ≠ l := apart hk m rfl
        exact ⟨rfl, q0, g.n m (by rw [wo_ne ne, q2]; exact fun z => nomatch z) q1, ns, g.h _ _ (by rw [wo_ne ne]; exact q2), q3⟩
end
theorem snd_callR {W : WX} {ft : FT} {ta : TA} {aa : AA} (ha : SndA K W ta aa) : SndR K W (tCallS (spR K ft) (WE W) ta) (aCallR ft aa) := by
  intro B0 H0 T ss σ H P Xe Q R hp q x
  refine ha B0 H0 T ss σ H _ Xe _ R hp (fun vs rs H1 h1 hl R1 => ?_) x
  obtain ⟨B, R1⟩ := R1
  split at h1
  · rename_i i r
    split at h1
    · rename_i l ds e1 e2
      match vs, hl with
      | v :: vr, hl =>
        have hv : σ[i]? = some (some v) := R1.t (v, .ali i) (by simp)
        obtain ⟨o, eo, e3, h0, hB, hd⟩ := R1.sl i _ e1
        rw [hv] at eo
        cases eo
        cases e3
        have R2 := R1.sub (T' := T) fun _ h => List.mem_append_right _ h
        refine ⟨l, vr, B, ds, P, Xe, rfl, hd, hB, R1.g.i, datAll_dp (fun p hp => R1.t p (List.mem_append_left _ (List.mem_cons_of_mem _ hp))) (Nat.succ.inj hl) e2, h1, fun v d B' H' hP g nb dd dv => ?_, fun c B' H' hX g nb dd => x c H' hX ⟨B', rep_drawn R2 e1 g nb dd⟩⟩
        exact q v _ H' hP ⟨B', rep_drawn R2 e1 g nb dd, dv, .inl ⟨d, rfl⟩⟩
    · exact h1.elim
  · exact h1.elim
def startR (N : List Str) (l : Addr) (ds : List PyData) : List SV := SV.drw l :: (ds.map SV.val ++ List.replicate (N.length - (ds.length + 1)) SV.no)
def endR (l : Addr) (P : RV → Prop) (Xe : XP) : AD := ⟨fun ss => P (.dat .none) ∧ ss[0]? = some (.drw l), fun r ss => P r ∧ (∃ d, r = .dat d) ∧ ss[0]? = some (.drw l), fun _ => False, fun _ => False, fun c ss => Xe c ∧ ss[0]? = some (.drw l)⟩
theorem rep_startR {B H : Hp} {N : List Str} {l : Addr} {vs : List V} {ds : List PyData} (i : Same B H) (nb : B l = none) (hd : DrawsAt H l) (h : DqAll K B vs ds) : RepB K B (wo H l) B H [] (startR N l ds) (L2.start N (.ref l :: vs)) := by
  have hl := dpAll_len h
  have e0 : L2.start N (.ref l :: vs) = some (.ref l) :: (vs.map some ++ List.replicate (N.length - (vs.length + 1)) none) := rfl
  rw [e0]
  have at_ : ∀ {k : Nat} {s : SV}, (ds.map SV.val ++ List.replicate (N.length - (ds.length + 1)) SV.no)[k]? = some s → ∃ o, (vs.map some ++ List.replicate (N.length - (vs.length + 1)) none)[k]? = some o ∧ ((s = .no) ∨ ∃ d v, s = .val d ∧ o = some v ∧ Dq K B v d) := fun {k s} e => by
    by_cases hk : k < ds.length
    · rw [List.getElem?_append_left (by rw [List.length_map]; exact hk), List.getElem?_map, List.getElem?_eq_getElem hk] at e
      obtain ⟨v, hv, dv⟩ := dpAll_get h (List.getElem?_eq_getElem hk)
      refine ⟨some v, ?_, .inr ⟨_, v, (Option.some.inj e).symm, rfl, dv⟩⟩
      rw [List.getElem?_append_left (by rw [List.length_map, hl]; exact hk), List.getElem?_map, hv]
      rfl
    · rw [List.getElem?_append_right (by rw [List.length_map]; omega), List.length_map, List.getElem?_replicate] at e
      split at e
      · rename_i hr
        refine ⟨none, ?_, .inl (Option.some.inj e).symm⟩
        rw [List.getElem?_append_right (by rw [List.length_map, hl]; omega), List.length_map, List.getElem?_replicate, hl, if_pos hr]
      · cases e
  have noown : ∀ {k : Nat} {s : SV} {o : Option V} {m : Addr}, (startR N l ds)[k]? = some s → Own s o m → k = 0 := fun {k s o m} e w => by
    cases k with
    | zero => rfl
    | succ k =>
      obtain ⟨o', _, h | ⟨d, v, h, _⟩⟩ := at_ (show _ = some s from e)
      · subst h
        exact w.elim
      · subst h
        exact w.elim
  refine ⟨⟨Same.refl B, i, wo_sub, fun _ _ e => e⟩, ?_, fun k s e => ?_, fun p hp => (nomatch hp), fun x y sx sy ox oy m e1 e2 e3 e4 w1 w2 => (noown e1 w1).trans (noown e2 w2).symm⟩
  · unfold startR
    rw [List.length_cons, List.length_cons, List.length_append, List.length_append, List.length_map, List.length_map, List.length_replicate, List.length_replicate, hl]
  · cases k with
    | zero =>
      cases e
      exact ⟨_, rfl, rfl, wo_same, nb, hd⟩
    | succ k =>
      obtain ⟨o, eo, h | ⟨d, v, rfl, rfl, hv⟩⟩ := at_ (show _ = some s from e)
      · subst h
        exact ⟨o, eo, trivial⟩
      · exact ⟨_, eo, v, rfl, hv⟩
theorem okR {x qual : Str} {st : Stmt} {f : Addr} {fd : FuncData} {N ps : List Str} {k : Nat} {ft : FT} (F : Fun K x qual st f fd) (S : FnScope N ps (defScope st)) (hlen : ∀ ds P X, ft ds P X → ds.length + 1 = ps.length)
    (body : ∀ (cdv : Value) (A : Around) (outer : List Env) (s : Shared) (H : Hp) (E : XK), Room k (A.deeper (envOfC qual (defScope st) s.heap.objs.size f cdv)) →
      ∃ as, QSs (cxB P w K mg base N qual st f cdv A outer s H E) (WF E) (defBody st) as ∧ ∀ l ds Q Xe, ft ds Q Xe → as (endR l Q Xe) (startR N l ds)) : FnOk P w K mg base (L2N.CX P w) (k + 1) f fd ps (spR K ft) := by
  obtain ⟨oc, od, kV, doc, pm, an, cdv, ct, osl, rfl, lk, hcd⟩ := F.ex
  refine fn_of lk hcd S (fun vs H Q E h => ?_) fun A outer s H vs Q E hr hsp => ?_
  · obtain ⟨l, vr, B, ds, P', X', rfl, _, _, _, da, hf, _⟩ := h
    rw [List.length_cons, dpAll_len da]
    exact hlen ds _ _ hf
  · obtain ⟨l, vr, B, ds, P', X', rfl, hd, nb, sb, da, hf, hq, hx⟩ := hsp
    obtain ⟨as, ⟨ts, hp, hs⟩, hb⟩ := body cdv A outer s H E hr
    have last : ∀ {ss : List SV} {σ : L2.St} {H' B' : Hp} {T : List (V × TV)}, RepB K B (wo H l) B' H' T ss σ → ss[0]? = some (.drw l) → B' l = none ∧ DrawsAt H' l := fun {ss σ H' B' T} R e => by
      obtain ⟨o, eo, rfl, h0, h1, h2⟩ := R.sl 0 _ e
      exact ⟨h1, h2⟩
    refine ⟨ts, hp, hs B (wo H l) _ _ H _ (endR l P' X') ⟨B, rep_startR sb nb hd da⟩ (hb l ds P' X' hf) ⟨fun ss σ H' h R => ?_, fun r ss σ H' v h R => ?_, fun ss σ H' h R => h.elim, fun ss σ H' h R => h.elim, fun c ss σ H' h R => ?_⟩⟩
    · obtain ⟨B', R⟩ := R
      obtain ⟨h, e⟩ := h
      obtain ⟨h1, h2⟩ := last R e
      exact hq .non .none B' H' h R.g h1 h2 .non
    · obtain ⟨B', R, rv⟩ := R
      obtain ⟨h, ⟨d, rfl⟩, e⟩ := h
      obtain ⟨h1, h2⟩ := last R e
      exact hq v d B' H' h R.g h1 h2 rv
    · obtain ⟨B', R⟩ := R
      obtain ⟨h, e⟩ := h
      obtain ⟨h1, h2⟩ := last R e
      exact hx c B' H' h R.g h1 h2
end
end AB
namespace AB
open PySem PySem.Spec PyProof.Rows L2

/-! ### the terms -/
structure QW (X : Cx) (W : WX) (e : Expr) (at_ : AT) : Prop where
  ex : ∃ tt, PW X e tt ∧ SndT X.K W tt at_
structure QTs (X : Cx) (W : WX) (es : List Expr) (at_ : AT) : Prop where
  ex : ∃ tt, PTs X es tt ∧ SndT X.K W tt at_
structure QI (X : Cx) (W : WX) (tg e : Expr) (ai : AI) : Prop where
  ex : ∃ wi, PI X tg e wi ∧ SndI X.K W wi ai
section
variable {X : Cx} {W : WX} {e a b c : Expr} {es : List Expr} {ae ae' ae2 : AE} {ar ar' : AR} {at_ au : AT} {aa : AA} {pos p p2 : Pos} {x : Str}
theorem qe_var (i : Nat) (hN : X.N[i]? = some x := by rfl) (hv : Vis X.env.scope x := by first | exact Or.inl rfl | exact Or.inr (Or.inl rfl) | exact Or.inr (Or.inr rfl)) (hd : (x == ("__debug__" : Str)) = false := by decide)
    (hcd : (x == ("__classdict__" : Str)) = false := by decide) : QE X W (.Name x pos) (aVar i) := ⟨_, pe_var hN hv hd hcd, snd_var⟩
theorem qe_int {n : Int} {j} : QE X W (.Constant (.int n) j pos) (aC (.int n)) := ⟨_, pe_int, snd_c fun _ => .int n⟩
theorem qe_bl {n : Bool} {j} : QE X W (.Constant (.bool n) j pos) (aC (.bool n)) := ⟨_, pe_bl, snd_c fun _ => .bl n⟩
theorem qe_non {j} : QE X W (.Constant .none j pos) (aC .none) := ⟨_, pe_non, snd_c fun _ => .non⟩
theorem qe_str {s : Str} {j} : QE X W (.Constant (.str s) j pos) (aC (.str s)) := ⟨_, pe_str, snd_c fun _ => .str s⟩
theorem qe_gint {n : Int} {t : Tok} (hm : X.mg x = some (.int n t)) (hg : Gl X x := by rfl) (hd : (x == ("__debug__" : Str)) = false := by decide) : QE X W (.Name x pos) (aC (.int n)) := ⟨_, pe_glob (v := .int n) hg hm ⟨t, rfl⟩ hd, snd_c fun _ => .int n⟩
theorem qe_gstr {s : Str} {t : Tok} (hm : X.mg x = some (.str s t)) (hg : Gl X x := by rfl) (hd : (x == ("__debug__" : Str)) = false := by decide) : QE X W (.Name x pos) (aC (.str s)) := ⟨_, pe_glob (v := .str s) hg hm ⟨t, rfl⟩ hd, snd_c fun _ => .str s⟩
theorem QR.d (h : QR X W e ar) : QE X W e (frz ar) := let ⟨te, h1, h2⟩ := h; ⟨te, h1, snd_frz h2⟩
theorem QR.f (h : QR X W e ar) : QR X W e (frzR ar) := let ⟨te, h1, h2⟩ := h; ⟨te, h1, snd_frzR h2⟩
theorem QE.r (h : QE X W e ae) : QR X W e (toR ae) := let ⟨te, h1, h2⟩ := h; ⟨te, h1, snd_toR h2⟩
theorem qr_op {op : Operator} {r : R2} {f : PyData → PyData → (RV → Prop) → Prop} (ho : OpR X (binaryOp op) r) (hs : OpS X.K r f) (ha : QE X W a ae) (hb : QE X W b ae') : QR X W (.BinOp a op b pos) (aOp2 f ae ae') := by
  obtain ⟨ta, h1, s1⟩ := ha
  obtain ⟨tb, h2, s2⟩ := hb
  exact ⟨_, pe_op ho h1 h2, snd_op s1 s2 hs⟩
theorem qr_add (ha : QE X W a ae) (hb : QE X W b ae') : QR X W (.BinOp a .Add b pos) (aOp2 fAdd ae ae') := qr_op op_addU os_add ha hb
theorem qr_sub (ha : QE X W a ae) (hb : QE X W b ae') : QR X W (.BinOp a .Sub b pos) (aOp2 fSub ae ae') := qr_op op_sub os_sub ha hb
theorem qr_mul (ha : QE X W a ae) (hb : QE X W b ae') : QR X W (.BinOp a .Mult b pos) (aOp2 fMul ae ae') := qr_op op_mulU os_mul ha hb
theorem qr_div (ha : QE X W a ae) (hb : QE X W b ae') : QR X W (.BinOp a .FloorDiv b pos) (aOp2 fDiv ae ae') := qr_op op_fdivW os_div ha hb
theorem qr_mod (ha : QE X W a ae) (hb : QE X W b ae') : QR X W (.BinOp a .Mod b pos) (aOp2 fMod ae ae') := qr_op op_mod os_mod ha hb
theorem qr_pow (ha : QE X W a ae) (hb : QE X W b ae') : QR X W (.BinOp a .Pow b pos) (aOp2 fPow ae ae') := qr_op op_pow os_pow ha hb
theorem qr_shl (ha : QE X W a ae) (hb : QE X W b ae') : QR X W (.BinOp a .LShift b pos) (aOp2 fShl ae ae') := qr_op op_shlW os_shl ha hb
theorem qr_shr (ha : QE X W a ae) (hb : QE X W b ae') : QR X W (.BinOp a .RShift b pos) (aOp2 fShr ae ae') := qr_op op_shr os_shr ha hb
theorem qr_and1 (ha : QE X W a ae) (hb : QE X W b ae') : QR X W (.BinOp a .BitAnd b pos) (aOp2 fAnd1 ae ae') := qr_op op_and1 os_and1 ha hb
theorem qr_neg (ha : QE X W a ae) : QR X W (.UnaryOp .USub a pos) (aUn fNeg ae) := by
  obtain ⟨ta, h1, s1⟩ := ha
  exact ⟨_, pe_un un_neg h1, snd_un s1 us_neg⟩
theorem qr_cmpG {op : CmpOp} {r : R2} {f : PyData → PyData → (RV → Prop) → Prop} (ho : OpR X (compareOp op) r) (hs : OpS X.K r f) (hm : behindInMarks op b = false) (ha : QE X W a ae) (hb : QE X W b ae') : QR X W (.Compare a [op] [b] pos) (aOp2 f ae ae') := by
  obtain ⟨ta, h1, s1⟩ := ha
  obtain ⟨tb, h2, s2⟩ := hb
  exact ⟨_, pe_cmpR ho h1 h2 hm, snd_op s1 s2 hs⟩
theorem qt_cmpG {op : CmpOp} {r : R2} {f : PyData → PyData → (RV → Prop) → Prop} (ho : OpR X (compareOp op) r) (hs : OpS X.K r f) (hm : behindInMarks op b = false) (ha : QE X W a ae) (hb : QE X W b ae') : QT X W (.Compare a [op] [b] pos) (aTB (aOp2 f ae ae')) := by
  obtain ⟨ta, h1, s1⟩ := ha
  obtain ⟨tb, h2, s2⟩ := hb
  exact ⟨_, pt_cmpR ho h1 h2 hm, snd_test (snd_op s1 s2 hs)⟩
theorem qr_eq {k : Nat} (hr : Room k X.A) (ha : QE X W a ae) (hb : QE X W b ae') : QR X W (.Compare a [.Eq] [b] pos) (aOp2 fEq ae ae') := qr_cmpG (op_eqD hr.units) os_eq (nomark b) ha hb
theorem qr_ne {k : Nat} (hr : Room k X.A) (ha : QE X W a ae) (hb : QE X W b ae') : QR X W (.Compare a [.NotEq] [b] pos) (aOp2 fNe ae ae') := qr_cmpG (op_neD hr.units) os_ne (nomark b) ha hb
theorem qr_lt (ha : QE X W a ae) (hb : QE X W b ae') : QR X W (.Compare a [.Lt] [b] pos) (aOp2 fLt ae ae') := qr_cmpG op_lt os_cmp (nomark b) ha hb
theorem qr_le (ha : QE X W a ae) (hb : QE X W b ae') : QR X W (.Compare a [.LtE] [b] pos) (aOp2 fLe ae ae') := qr_cmpG op_le os_cmp (nomark b) ha hb
theorem qr_gt (ha : QE X W a ae) (hb : QE X W b ae') : QR X W (.Compare a [.Gt] [b] pos) (aOp2 fGt ae ae') := qr_cmpG op_gt os_cmp (nomark b) ha hb
theorem qr_ge (ha : QE X W a ae) (hb : QE X W b ae') : QR X W (.Compare a [.GtE] [b] pos) (aOp2 fGe ae ae') := qr_cmpG op_ge os_cmp (nomark b) ha hb
theorem qr_is (ha : QE X W a ae) (hb : QE X W b ae') : QR X W (.Compare a [.Is] [b] pos) (aOp2 fIs ae ae') := qr_cmpG op_isU os_is (nomark b) ha hb
theorem qr_isNot (ha : QE X W a ae) (hb : QE X W b ae') : QR X W (.Compare a [.IsNot] [b] pos) (aOp2 fIsNot ae ae') := qr_cmpG op_isNotU os_isNot (nomark b) ha hb
theorem qt_eq {k : Nat} (hr : Room k X.A) (ha : QE X W a ae) (hb : QE X W b ae') : QT X W (.Compare a [.Eq] [b] pos) (aTB (aOp2 fEq ae ae')) := qt_cmpG (op_eqD hr.units) os_eq (nomark b) ha hb
theorem qt_ne {k : Nat} (hr : Room k X.A) (ha : QE X W a ae) (hb : QE X W b ae') : QT X W (.Compare a [.NotEq] [b] pos) (aTB (aOp2 fNe ae ae')) := qt_cmpG (op_neD hr.units) os_ne (nomark b) ha hb
theorem qt_lt (ha : QE X W a ae) (hb : QE X W b ae') : QT X W (.Compare a [.Lt] [b] pos) (aTB (aOp2 fLt ae ae')) := qt_cmpG op_lt os_cmp (nomark b) ha hb
theorem qt_le (ha : QE X W a ae) (hb : QE X W b ae') : QT X W (.Compare a [.LtE] [b] pos) (aTB (aOp2 fLe ae ae')) := qt_cmpG op_le os_cmp (nomark b) ha hb
theorem qt_gt (ha : QE X W a ae) (hb : QE X W b ae') : QT X W (.Compare a [.Gt] [b] pos) (aTB (aOp2 fGt ae ae')) := qt_cmpG op_gt os_cmp (nomark b) ha hb
theorem qt_ge (ha : QE X W a ae) (hb : QE X W b ae') : QT X W (.Compare a [.GtE] [b] pos) (aTB (aOp2 fGe ae ae')) := qt_cmpG op_ge os_cmp (nomark b) ha hb
theorem qt_is (ha : QE X W a ae) (hb : QE X W b ae') : QT X W (.Compare a [.Is] [b] pos) (aTB (aOp2 fIs ae ae')) := qt_cmpG op_isU os_is (nomark b) ha hb
theorem qt_isNot (ha : QE X W a ae) (hb : QE X W b ae') : QT X W (.Compare a [.IsNot] [b] pos) (aTB (aOp2 fIsNot ae ae')) := qt_cmpG op_isNotU os_isNot (nomark b) ha hb
theorem qr_chain {op op' : CmpOp} {f g : PyData → PyData → (RV → Prop) → Prop} {r r' : R2} (ho : OpR X (compareOp op) r) (ho' : OpR X (compareOp op') r') (hs : OpS X.K r f) (hs' : OpS X.K r' g) (ha : QE X W a ae) (hb : QE X W b ae') (hc : QE X W c ae2)
    (hm : lastMarks [op, op'] [b, c] = false := by with_unfolding_all rfl) : QR X W (.Compare a [op, op'] [b, c] pos) (aChain f g ae ae' ae2) := by
  obtain ⟨ta, h1, s1⟩ := ha
  obtain ⟨tb, h2, s2⟩ := hb
  obtain ⟨tc, h3, s3⟩ := hc
  exact ⟨_, pe_chain ho ho' h1 h2 h3 hm, snd_chain s1 s2 s3 hs hs'⟩
theorem qt_chain {op op' : CmpOp} {f g : PyData → PyData → (RV → Prop) → Prop} {r r' : R2} (ho : OpR X (compareOp op) r) (ho' : OpR X (compareOp op') r') (hs : OpS X.K r f) (hs' : OpS X.K r' g) (ha : QE X W a ae) (hb : QE X W b ae') (hc : QE X W c ae2)
    (hm : lastMarks [op, op'] [b, c] = false := by with_unfolding_all rfl) : QT X W (.Compare a [op, op'] [b, c] pos) (aTB (aChain f g ae ae' ae2)) := by
  obtain ⟨ta, h1, s1⟩ := ha
  obtain ⟨tb, h2, s2⟩ := hb
  obtain ⟨tc, h3, s3⟩ := hc
  exact ⟨_, pt_chain ho ho' h1 h2 h3 hm, snd_test (snd_chain s1 s2 s3 hs hs')⟩
theorem qr_ix (ha : QE X W a ae) (hb : QE X W b ae') (hs : PlainIx b := by intro _ _; rfl) : QR X W (.Subscript a b pos) (aOp2 fIx ae ae') := by
  obtain ⟨ta, h1, s1⟩ := ha
  obtain ⟨tb, h2, s2⟩ := hb
  exact ⟨_, pe_ix ix_seq h1 h2 hs, snd_op s1 s2 os_ix⟩
theorem qo_none : QO X W none aNoPart := ⟨_, po_none, snd_noPart⟩
theorem qo_some (ha : QE X W a ae) : QO X W (some a) (aPart ae) := by
  obtain ⟨ta, h1, s1⟩ := ha
  exact ⟨_, po_some h1, snd_part s1⟩
theorem qr_sl {lo hi : Option Expr} {al ah : AO} (ha : QE X W a ae) (hl : QO X W lo al) (hh : QO X W hi ah) : QR X W (.Subscript a (.Slice lo hi none p2) pos) (aSl fSl ae al ah) := by
  obtain ⟨ta, h1, s1⟩ := ha
  obtain ⟨tl, h2, s2⟩ := hl
  obtain ⟨th, h3, s3⟩ := hh
  exact ⟨_, pe_slice sl_U h1 h2 h3, snd_sl s1 s2 s3 ss_sl⟩
theorem qa_nil : QA X W [] aNil := ⟨_, pa_nil, snd_nil⟩
theorem qa_cons (ha : QE X W a ae) (hr : QA X W es aa) (hs : starEach (a :: es) X.env = (false, eval a X.env) :: starEach es X.env := by rfl) : QA X W (a :: es) (aCons ae aa) := by
  obtain ⟨ta, h1, s1⟩ := ha
  obtain ⟨tr, h2, s2⟩ := hr
  exact ⟨_, pa_cons h1 h2 hs, snd_cons s1 s2⟩
theorem qr_tup {k} (h : QA X W es aa) : QR X W (.Tuple es k pos) (aTup aa) := by
  obtain ⟨ta, h1, s1⟩ := h
  exact ⟨_, pe_tup h1, snd_tup s1⟩
theorem qr_lst (h : QA X W es aa) : QR X W (.List es pos) (aLst aa) := by
  obtain ⟨ta, h1, s1⟩ := h
  exact ⟨_, pe_lst h1, snd_lst s1⟩
theorem qr_B {id : String} {r : List V → Hp → VK → Prop} {f : List PyData → (RV → Prop) → Prop} (hc : CallR X (.builtin id) r) (hs : BS X.K r f) (hv : bootBuiltins x = some (.builtin id)) (hm : X.mg x = none) (ha : QA X W (e :: es) aa) (hg : Gl X x := by rfl) (hn : x ≠ "__name__" := by decide) (hdb : (x == ("__debug__" : Str)) = false := by decide)
    (he : starEach (e :: es) X.env = (false, eval e X.env) :: starEach es X.env := by rfl) (hpl : (backTo pos (starEach es X.env)).any (·.1) = false := by rfl) : QR X W (.Call (.Name x p) (e :: es) [] pos) (aCB f aa) := by
  obtain ⟨ta, h1, s1⟩ := ha
  exact ⟨_, pe_callB hc hg hm hv h1 hn hdb he hpl, snd_cb s1 hs⟩
theorem qr_Ty {T : String} {r : List V → Hp → VK → Prop} {f : List PyData → (RV → Prop) → Prop} (hc : CallR X (.type T) r) (hs : BS X.K r f) (hv : bootBuiltins x = some (.type T)) (hm : X.mg x = none) (ha : QA X W (e :: es) aa) (hg : Gl X x := by rfl) (hn : x ≠ "__name__" := by decide) (hdb : (x == ("__debug__" : Str)) = false := by decide)
    (he : starEach (e :: es) X.env = (false, eval e X.env) :: starEach es X.env := by rfl) (hpl : (backTo pos (starEach es X.env)).any (·.1) = false := by rfl) : QR X W (.Call (.Name x p) (e :: es) [] pos) (aCB f aa) := by
  obtain ⟨ta, h1, s1⟩ := ha
  exact ⟨_, pe_callTy hc hg hm hv h1 hn hdb he hpl, snd_cb s1 hs⟩
theorem qr_isi {T : Str} {Ty : String} {pt : Pos} (ha : QE X W a ae) (hv : bootBuiltins T = some (.type Ty)) (hm : X.mg "isinstance" = none) (hmT : X.mg T = none) (hT : isOk Ty = true := by decide +kernel) (hg : Gl X "isinstance" := by rfl) (hgT : Gl X T := by rfl) (hnT : T ≠ "__name__" := by decide) (hdT : (T == ("__debug__" : Str)) = false := by decide)
    (he : starEach [a, .Name T pt] X.env = (false, eval a X.env) :: starEach [.Name T pt] X.env := by rfl) (he2 : starEach [.Name T pt] X.env = (false, eval (.Name T pt) X.env) :: starEach [] X.env := by rfl) (hpl : (backTo pos (starEach [.Name T pt] X.env)).any (·.1) = false := by rfl) :
    QR X W (.Call (.Name "isinstance" p) [a, .Name T pt] [] pos) (aIsi Ty ae) := by
  obtain ⟨ta, h1, s1⟩ := ha
  exact ⟨_, pe_callB call_isi hg hm PyProof.Rows.boot_isinstance (pa_cons h1 (pa_cons (pe_bltn (v := .ty Ty) hgT hmT hv rfl hnT hdT) pa_nil he2) he) (by decide) (by decide) he hpl, snd_isi hT s1⟩
theorem qr_call {k : Nat} {f : Addr} {fd : FuncData} {ps : List Str} {ft : FT} (F : FnOk X.prog X.w X.K X.mg X.base (L2N.CX X.prog X.w) k f fd ps (spD X.K ft)) (hr : Room k X.A) (hm : X.mg x = some (.ref f)) (hk : PySem.W.keepIn X.K (.ref f) = true) (hb : Binds X.K fd ps []) (tk : L2N.Takes X W)
    (ha : QA X W (e :: es) aa) (hg : Gl X x := by rfl) (hdb : (x == ("__debug__" : Str)) = false := by decide) (he : starEach (e :: es) X.env = (false, eval e X.env) :: starEach es X.env := by rfl) (hpl : (backTo pos (starEach es X.env)).any (·.1) = false := by rfl) :
    QR X W (.Call (.Name x p) (e :: es) [] pos) (aCall ft aa) := by
  obtain ⟨ta, h1, s1⟩ := ha
  exact ⟨_, pe_callS F hr hg hm hk hb (fun σ => L2N.passAt tk σ) h1 hdb he hpl, snd_call s1⟩
theorem qr_callP {k : Nat} {f : Addr} {fd : FuncData} {ps : List Str} {ft : FT} (hf : Calm ft) (F : FnOk X.prog X.w X.K X.mg X.base (L2N.CX X.prog X.w) k f fd ps (spD X.K ft)) (hr : Room k X.A) (hm : X.mg x = some (.ref f)) (hk : PySem.W.keepIn X.K (.ref f) = true) (hb : Binds X.K fd ps [])
    (ha : QA X W (e :: es) aa) (hg : Gl X x := by rfl) (hdb : (x == ("__debug__" : Str)) = false := by decide) (he : starEach (e :: es) X.env = (false, eval e X.env) :: starEach es X.env := by rfl) (hpl : (backTo pos (starEach es X.env)).any (·.1) = false := by rfl) :
    QR X W (.Call (.Name x p) (e :: es) [] pos) (aCall ft aa) := by
  obtain ⟨ta, h1, s1⟩ := ha
  exact ⟨_, pe_callS F hr hg hm hk hb (fun σ => passN σ) h1 hdb he hpl, snd_callP hf s1⟩
theorem snd_callRP {K : PySem.W.Frag} {ft : FT} {ta : TA} {aa : AA} (hf : Calm ft) (ha : SndA K W ta aa) : SndR K W (tCallS (spR K ft) (fun _ => E0) ta) (aCallR ft aa) := by
  intro B0 H0 T ss σ H P Xe Q R hp q x
  have hp' : aCallR ft aa ss P Xe := hp
  have h := snd_callR (W := W) (ft := fun ds P _ => ft ds P fun _ => False) ha B0 H0 T ss σ H P Xe (fun v H' => Q v H') R
  refine ha B0 H0 T ss σ H _ Xe _ R hp (fun vs rs H1 h1 hl R1 => ?_) x
  obtain ⟨B, R1⟩ := R1
  split at h1
  · rename_i i r
    split at h1
    · rename_i l ds e1 e2
      match vs, hl with
      | v :: vr, hl =>
        have hv : σ[i]? = some (some v) := R1.t (v, .ali i) (by simp)
        obtain ⟨o, eo, e3, h0, hB, hd⟩ := R1.sl i _ e1
        rw [hv] at eo
        cases eo
        cases e3
        have R2 := R1.sub (T' := T) fun _ h => List.mem_append_right _ h
        refine ⟨l, vr, B, ds, P, fun _ => False, rfl, hd, hB, R1.g.i, datAll_dp (fun p hp => R1.t p (List.mem_append_left _ (List.mem_cons_of_mem _ hp))) (Nat.succ.inj hl) e2, hf _ _ _ h1, fun v d B' H' hP g nb dd dv => ?_, fun c B' H' hX g nb dd => hX.elim⟩
        exact q v _ H' hP ⟨B', rep_drawn R2 e1 g nb dd, dv, .inl ⟨d, rfl⟩⟩
    · exact h1.elim
  · exact h1.elim
theorem qr_callR {k : Nat} {f : Addr} {fd : FuncData} {ps : List Str} {ft : FT} (hf : Calm ft) (F : FnOk X.prog X.w X.K X.mg X.base (L2N.CX X.prog X.w) k f fd ps (spR X.K ft)) (hr : Room k X.A) (hm : X.mg x = some (.ref f)) (hk : PySem.W.keepIn X.K (.ref f) = true) (hb : Binds X.K fd ps [])
    (ha : QA X W (e :: es) aa) (hg : Gl X x := by rfl) (hdb : (x == ("__debug__" : Str)) = false := by decide) (he : starEach (e :: es) X.env = (false, eval e X.env) :: starEach es X.env := by rfl) (hpl : (backTo pos (starEach es X.env)).any (·.1) = false := by rfl) :
    QR X W (.Call (.Name x p) (e :: es) [] pos) (aCallR ft aa) := by
  obtain ⟨ta, h1, s1⟩ := ha
  exact ⟨_, pe_callS F hr hg hm hk hb (fun σ => passN σ) h1 hdb he hpl, snd_callRP hf s1⟩
theorem qr_one {op} (h : QR X W a ar) : QR X W (.BoolOp op [a] pos) ar := let ⟨te, h1, h2⟩ := h; ⟨te, pe_one h1, h2⟩
theorem qr_and (ha : QR X W a ar) (hb : QR X W (.BoolOp .And (b :: es) pos) ar') : QR X W (.BoolOp .And (a :: b :: es) pos) (aAndV ar ar') := by
  obtain ⟨ta, h1, s1⟩ := ha
  obtain ⟨tb, h2, s2⟩ := hb
  exact ⟨_, pe_and h1 h2, snd_andV s1 s2⟩
theorem qr_or (ha : QR X W a ar) (hb : QR X W (.BoolOp .Or (b :: es) pos) ar') : QR X W (.BoolOp .Or (a :: b :: es) pos) (aOrV ar ar') := by
  obtain ⟨ta, h1, s1⟩ := ha
  obtain ⟨tb, h2, s2⟩ := hb
  exact ⟨_, pe_or h1 h2, snd_orV s1 s2⟩
theorem qr_not (ha : QR X W a ar) : QR X W (.UnaryOp .Not a pos) (aNotV ar) := by
  obtain ⟨ta, h1, s1⟩ := ha
  exact ⟨_, pe_not h1, snd_notV s1⟩
theorem qw_and1 (h : QT X W a at_) : QW X W (.BoolOp .And [a] pos) at_ := let ⟨te, h1, h2⟩ := h; ⟨te, pw_and1 h1, h2⟩
theorem qw_or1 (h : QT X W a at_) : QW X W (.BoolOp .Or [a] pos) at_ := let ⟨te, h1, h2⟩ := h; ⟨te, pw_or1 h1, h2⟩
theorem qw_and (ha : QT X W a at_) (hb : QW X W (.BoolOp .And (b :: es) pos) au) : QW X W (.BoolOp .And (a :: b :: es) pos) (aAndT at_ au) := by
  obtain ⟨ta, h1, s1⟩ := ha
  obtain ⟨tb, h2, s2⟩ := hb
  exact ⟨_, pw_and h1 h2, snd_andT s1 s2⟩
theorem qw_or (ha : QT X W a at_) (hb : QW X W (.BoolOp .Or (b :: es) pos) au) : QW X W (.BoolOp .Or (a :: b :: es) pos) (aOrT at_ au) := by
  obtain ⟨ta, h1, s1⟩ := ha
  obtain ⟨tb, h2, s2⟩ := hb
  exact ⟨_, pw_or h1 h2, snd_orT s1 s2⟩
theorem QW.t (h : QW X W e at_) : QT X W e at_ := let ⟨te, h1, h2⟩ := h; ⟨te, h1.pt, h2⟩
theorem qt_not (ha : QT X W a at_) : QT X W (.UnaryOp .Not a pos) (aNotT at_) := by
  obtain ⟨ta, h1, s1⟩ := ha
  exact ⟨_, pt_not h1, snd_notT s1⟩
theorem qt_val (h : QR X W e ar) (he : ∀ whole, isTrue e X.env whole = (do let v ← whole; standAt e.pos; holding [v] (truthy v)) := by intro _; rfl) : QT X W e (aTB ar) := let ⟨te, h1, h2⟩ := h; ⟨_, pt_val h1 he, snd_tb h2⟩
theorem qt_tru (h : QE X W e ae) (he : ∀ whole, isTrue e X.env whole = (do let v ← whole; standAt e.pos; holding [v] (truthy v)) := by intro _; rfl) : QT X W e (aTru ae) := let ⟨te, h1, h2⟩ := h; ⟨_, pt_truth h1 he, snd_tru h2⟩
theorem qr_if (hc : QT X W c at_) (ha : QR X W a ar) (hb : QR X W b ar') : QR X W (.IfExp c a b pos) (aIf at_ ar ar') := by
  obtain ⟨tc, h1, s1⟩ := hc
  obtain ⟨ta, h2, s2⟩ := ha
  obtain ⟨tb, h3, s3⟩ := hb
  exact ⟨_, pe_ifExp h1 h2 h3, snd_if s1 s2 s3⟩
end

/-! ### targets, what is walked -/
structure QG (X : Cx) (tg : Expr) (js : List Nat) (ag : AG) : Prop where
  ex : ∃ g, PG X tg g ∧ SndG X.K js g ag
structure QGs (X : Cx) (tgs : List Expr) (js : List Nat) (ag : AGs) : Prop where
  ex : ∃ g, PGs X tgs g ∧ SndGs X.K js g ag
section
variable {X : Cx} {W : WX} {e a b c tg : Expr} {es tgs : List Expr} {ae ae' : AE} {ar ar' : AR} {at_ au : AT} {aa : AA} {pos p p2 : Pos} {x : Str} {js ks : List Nat} {ag : AG} {ags : AGs} {ai : AI}
theorem qg_name (i : Nat) (hN : X.N.Nodup) (hi : X.N[i]? = some x := by rfl) (hx : Loc X.env.scope x := by first | exact .inl rfl | exact .inr rfl) (hf : X.fn x = true ∨ X.env.scope.names.lookup x = some .local := by first | exact .inl rfl | exact .inr rfl) : QG X (.Name x pos) [i] (agName i) := ⟨_, pg_name hN hi hx hf, sg_name⟩
theorem qgs_nil : QGs X [] [] agNil := ⟨_, pgs_nil, sg_nil⟩
theorem qgs_cons (h1 : QG X e js ag) (h2 : QGs X es ks ags) (hs : (assignEach (e :: es) X.env).map (·.2) = assign e X.env :: (assignEach es X.env).map (·.2) := by rfl) : QGs X (e :: es) (js ++ ks) (agCons ag ags) := by
  obtain ⟨g1, p1, s1⟩ := h1
  obtain ⟨g2, p2, s2⟩ := h2
  exact ⟨_, pgs_cons p1 p2 hs, sg_cons s1 s2⟩
theorem qg_tup {k : Nat} {n : Nat} (h : QGs X tgs js ags) (hc : X.calm = true := by rfl) (hn : (assignEach tgs X.env).length = n := by rfl) (hst : (assignEach tgs X.env).findIdx? (·.1) = none := by rfl) : QG X (.Tuple tgs k pos) js (agTup n ags) := by
  obtain ⟨g, p1, s1⟩ := h
  exact ⟨_, pg_tup hc p1 hn hst, sg_tup s1⟩
theorem qi_list (h : QE X W e ae) : QI X W tg e (aiL ae) := let ⟨te, h1, h2⟩ := h; ⟨_, pi_list h1, si_list h2⟩
theorem qi_tup (h : QE X W e ae) : QI X W tg e (aiT ae) := let ⟨te, h1, h2⟩ := h; ⟨_, pi_tup h1, si_tup h2⟩
theorem qi_scr (h : QE X W e ae) : QI X W tg e (aiS ae) := let ⟨te, h1, h2⟩ := h; ⟨_, pi_list h1, si_scr h2⟩
theorem qi_r1 (hm : X.mg "range" = none) (h : QA X W [a] aa) (hg : Gl X "range" := by rfl) (hs : starEach [a] X.env = [(false, eval a X.env)] := by rfl) : QI X W tg (.Call (.Name "range" p) [a] [] pos) (aiR1 aa) := let ⟨te, h1, h2⟩ := h; ⟨_, pi_range1 hg hm h1 hs, si_r1 h2⟩
theorem qi_r2 (hm : X.mg "range" = none) (h : QA X W [a, b] aa) (hg : Gl X "range" := by rfl) (hs : starEach [a, b] X.env = [(false, eval a X.env), (false, eval b X.env)] := by rfl) (hs2 : starEach [b] X.env = [(false, eval b X.env)] := by rfl) : QI X W tg (.Call (.Name "range" p) [a, b] [] pos) (aiR2 aa) := let ⟨te, h1, h2⟩ := h; ⟨_, pi_range2 hg hm h1 hs hs2, si_r2 h2⟩
theorem qts_nil : QTs X W [] aYes := ⟨_, pts_nil, snd_yes⟩
theorem qts_one (h : QT X W c at_) : QTs X W [c] at_ := let ⟨te, h1, h2⟩ := h; ⟨_, pts_one h1, h2⟩

/-! ### statements -/
variable {st : Stmt} {sts sts' : List Stmt} {as as' : AS}
theorem qss_nil : QSs X W [] aNext := ⟨_, pss_nil, ss_next⟩
theorem qss_one (h : QS X W st as) : QSs X W [st] as := let ⟨te, h1, h2⟩ := h; ⟨_, pss_one h1, h2⟩
theorem qss_cons (h1 : QS X W st as) (h2 : QSs X W sts as') : QSs X W (st :: sts) (aSeq as as') := by
  obtain ⟨t1, p1, s1⟩ := h1
  obtain ⟨t2, p2, s2⟩ := h2
  exact ⟨_, pss_cons p1 p2, ss_seq s1 s2⟩
theorem qs_set (i : Nat) (hN : X.N.Nodup) (h : QR X W e ar) (hi : X.N[i]? = some x := by rfl) (hx : Loc X.env.scope x := by first | exact .inl rfl | exact .inr rfl) (hs : swapsWith e (some (.Name x p)) pos.line X.env = pure false := by rfl) (hf : X.fn x = true ∨ X.env.scope.names.lookup x = some .local := by first | exact .inl rfl | exact .inr rfl) :
    QS X W (.Assign [.Name x p] e pos) (aAsg i ar) := let ⟨te, h1, h2⟩ := h; ⟨_, ps_set hN hi hx h1 hs hf, ss_asg h2⟩
theorem qs_asgT (h : QE X W e ae) (hg : QG X tg js ag) (hs : swapsWithSole [tg] e pos.line X.env = pure false := by rfl) (hw : swappedStores [tg] e X.env = pure none := by rfl) (h1 : (assignEach [tg] X.env).map (·.2) = [assign tg X.env] := by rfl) : QS X W (.Assign [tg] e pos) (aAsgT ag ae) := by
  obtain ⟨te, p1, s1⟩ := h
  obtain ⟨g, p2, s2⟩ := hg
  exact ⟨_, ps_asg p1 p2 hs hw h1, ss_asgT s1 s2⟩
theorem qs_par (i j : Nat) {y : Str} {px py pt pt2 : Pos} {kt k2} (hN : X.N.Nodup) (h : QA X W [a, b] aa) (hw : swappedStores [.Tuple [.Name x px, .Name y py] kt pt] (.Tuple [a, b] k2 pt2) X.env = pure (some [x, y]) := by rfl) (hi : X.N[i]? = some x := by rfl) (hj : X.N[j]? = some y := by rfl) (hij : i ≠ j := by decide)
    (hx : X.env.scope.names.lookup x = some .local := by rfl) (hy : X.env.scope.names.lookup y = some .local := by rfl) (hs : swapsWithSole [.Tuple [.Name x px, .Name y py] kt pt] (.Tuple [a, b] k2 pt2) pos.line X.env = pure false := by rfl) (hc : X.calm = true := by rfl) :
    QS X W (.Assign [.Tuple [.Name x px, .Name y py] kt pt] (.Tuple [a, b] k2 pt2) pos) (aPar i j aa) := let ⟨te, h1, h2⟩ := h; ⟨_, ps_par hc hN hi hj hij hx hy h1 hw hs, ss_par h2⟩
theorem qs_if (hc : QT X W c at_) (h1 : QSs X W sts as) (h2 : QSs X W sts' as') : QS X W (.If c sts sts' pos) (aIfS at_ as as') := by
  obtain ⟨tc, p0, s0⟩ := hc
  obtain ⟨t1, p1, s1⟩ := h1
  obtain ⟨t2, p2, s2⟩ := h2
  exact ⟨_, ps_if p0 p1 p2, ss_if s0 s1 s2⟩
theorem qs_ret (h : QR X W e ar) : QS X W (.Return (some e) pos) (aRet ar) := let ⟨te, h1, h2⟩ := h; ⟨_, ps_ret h1, ss_ret h2⟩
theorem qs_retN : QS X W (.Return none pos) aRetN := ⟨_, ps_retN, ss_retN⟩
theorem qs_retV (i : Nat) (hN : X.N[i]? = some x := by rfl) (hv : Vis X.env.scope x := by first | exact Or.inl rfl | exact Or.inr (Or.inl rfl) | exact Or.inr (Or.inr rfl)) (hd : (x == ("__debug__" : Str)) = false := by decide) (hcd : (x == ("__classdict__" : Str)) = false := by decide) :
    QS X W (.Return (some (.Name x p)) pos) (aRetV i) := ⟨_, ps_ret (pe_var hN hv hd hcd), ss_retV⟩
theorem qs_expr (h : QR X W e ar) (hs : swapsWith e none pos.line X.env = pure false := by rfl) : QS X W (.Expr e pos) (aDrop ar) := let ⟨te, h1, h2⟩ := h; ⟨_, ps_expr h1 hs, ss_drop h2⟩
theorem qs_pass : QS X W (.Pass pos) aNext := ⟨_, ps_pass, ss_next⟩
theorem qs_brk : QS X W (.Break pos) aBrk := ⟨_, ps_break, ss_brk⟩
theorem qs_ct : QS X W (.Continue pos) aCt := ⟨_, ps_continue, ss_ct⟩
theorem QS.frz (i : Nat) (h : QS X W st as) : QS X W st (aFrz i as) := let ⟨te, h1, h2⟩ := h; ⟨_, h1, ss_frz h2⟩
theorem qs_add (i : Nat) (hN : X.N.Nodup) (h : QE X W e ae) (hi : X.N[i]? = some x := by rfl) (hx : Loc X.env.scope x := by first | exact .inl rfl | exact .inr rfl) (hf : X.fn x = true ∨ X.env.scope.names.lookup x = some .local := by first | exact .inl rfl | exact .inr rfl) :
    QS X W (.AugAssign (.Name x p) .Add e pos) (aAug (fun i j => i + j) i ae) := let ⟨te, h1, h2⟩ := h; ⟨_, ps_aug hN hi hx h1 ip_add hf, ss_aug h2⟩
theorem qs_sub (i : Nat) (hN : X.N.Nodup) (h : QE X W e ae) (hi : X.N[i]? = some x := by rfl) (hx : Loc X.env.scope x := by first | exact .inl rfl | exact .inr rfl) (hf : X.fn x = true ∨ X.env.scope.names.lookup x = some .local := by first | exact .inl rfl | exact .inr rfl) :
    QS X W (.AugAssign (.Name x p) .Sub e pos) (aAug (fun i j => i - j) i ae) := let ⟨te, h1, h2⟩ := h; ⟨_, ps_aug hN hi hx h1 ip_sub hf, ss_aug h2⟩
theorem qs_for (hp : PassesOwn (model X.prog X.w) X.A X.env X.xe) (hi : QI X W tg e ai) (hg : QG X tg js ag) (hb : QSs X W sts as) (hc : X.calm = true := by rfl) (hs : ∀ x, foldedSetIterable e X.env x = pure x := by intro _; rfl) : QS X W (.For tg e sts [] pos) (aFor ai ag as) := by
  obtain ⟨wi, p1, s1⟩ := hi
  obtain ⟨g, p2, s2⟩ := hg
  obtain ⟨tb, p3, s3⟩ := hb
  exact ⟨_, ps_for hp hc p1 p2 p3 hs, ss_for s1 s2 s3⟩
theorem qs_while (hp : PassesOwn (model X.prog X.w) X.A X.env X.xe) (hc : QT X W c at_) (hb : QSs X W sts as) : QS X W (.While c sts [] pos) (aWhile at_ as) := by
  obtain ⟨tc, p1, s1⟩ := hc
  obtain ⟨tb, p3, s3⟩ := hb
  exact ⟨_, ps_while hp p1 p3, ss_while s1 s3⟩
theorem qs_app (i : Nat) {y : Str} {apos pp : Pos} (h : QE X W e ae) (hN : X.N[i]? = some y := by rfl) (hv : Vis X.env.scope y := by first | exact Or.inl rfl | exact Or.inr (Or.inl rfl) | exact Or.inr (Or.inr rfl)) (hd : (y == ("__debug__" : Str)) = false := by decide) (hcd : (y == ("__classdict__" : Str)) = false := by decide)
    (ex : ∀ {te : TE}, PE X e te → PE X (.Call (.Attribute (.Name y p) "append" apos) [e] [] pp) (tBM X.K "list" rAppend (tVar i) (tCons te tNil)) := by
      intro te h
      exact pe_bm PySem.F.plainAttrs_list PySem.F.slot_list_append PySem.F.type_list_append mt_append (pv _) (pa_cons h pa_nil))
    (hs : swapsWith (.Call (.Attribute (.Name y p) "append" apos) [e] [] pp) none pos.line X.env = pure false := by rfl) :
    QS X W (.Expr (.Call (.Attribute (.Name y p) "append" apos) [e] [] pp) pos) (aApp i ae) := let ⟨te, h1, h2⟩ := h; ⟨_, ps_expr (ex h1) hs, ss_app h2⟩
theorem qs_raise {C : Addr} {m : Str} {j : Nat} {bmB : List Value} {B newId initId : String} {q1 q2 : Pos} (F : ExcBaseFacts B newId initId bmB) (q : PySem.W.excIn X.K C bmB newId = true) (gC : X.mg x = some (.ref C)) (kC : PySem.W.keepIn X.K (.ref C) = true) (r : Raises X (.ref C)) (tk : L2N.Takes X W) (hg : Gl X x := by rfl)
    (hdb : (x == ("__debug__" : Str)) = false := by decide) (hc : X.calm = true := by rfl) : QS X W (.Raise (some (.Call (.Name x p) [.Constant (.str m) j q1] [] q2)) none pos) (aRaise (.ref C)) := ⟨_, L2N.ps_raise hc tk (L2N.pmk_own F q gC kC r hg hdb), ss_raise⟩
/-- one reading for all places -/
theorem qe_all {ι : Type} {Y : ι → Cx} {K : PySem.W.Frag} (hK : ∀ i, (Y i).K = K) {W' : WX} {e : Expr} {ae : AE} (h : ∀ i, QE (Y i) W' e ae) : ∃ te, (∀ i, PE (Y i) e te) ∧ Snd K W' te ae := by
  refine ⟨fun σ H Q => ∀ te, Snd K W' te ae → te σ H Q, fun i => ?_, fun B0 H0 T ss σ H P Xe Q R hp q x te ht => ht B0 H0 T ss σ H P Xe Q R hp q x⟩
  obtain ⟨te, h1, h2⟩ := h i
  rw [hK i] at h2
  exact ⟨fun pins s σ H Q I ht => h1.run pins s σ H Q I (ht te h2)⟩
theorem qts_all {ι : Type} {Y : ι → Cx} {K : PySem.W.Frag} (hK : ∀ i, (Y i).K = K) {W' : WX} {es : List Expr} {at_ : AT} (h : ∀ i, QTs (Y i) W' es at_) : ∃ tt, (∀ i, PTs (Y i) es tt) ∧ SndT K W' tt at_ := by
  refine ⟨fun σ H Q => ∀ te, SndT K W' te at_ → te σ H Q, fun i => ?_, fun B0 H0 T ss σ H P Xe Q R hp q x te ht => ht B0 H0 T ss σ H P Xe Q R hp q x⟩
  obtain ⟨te, h1, h2⟩ := h i
  rw [hK i] at h2
  exact ⟨fun pins s σ H Q I ht => h1.run pins s σ H Q I (ht te h2)⟩
theorem qg_all {ι : Type} {Y : ι → Cx} {K : PySem.W.Frag} (hK : ∀ i, (Y i).K = K) {tg : Expr} {js : List Nat} {ag : AG} (h : ∀ i, QG (Y i) tg js ag) : ∃ g, (∀ i, PG (Y i) tg g) ∧ SndG K js g ag := by
  refine ⟨fun v σ H Q => ∀ g, SndG K js g ag → g v σ H Q, fun i => ?_, fun B0 H0 B H ss σ v d k Q R hv hd q g hg => hg B0 H0 B H ss σ v d k Q R hv hd q⟩
  obtain ⟨te, h1, h2⟩ := h i
  rw [hK i] at h2
  exact ⟨fun pins s σ H v u Q I r ht => h1.run pins s σ H v u Q I r (ht te h2)⟩
structure BlkI where
  s : Shared
  H : Hp
  C : Addr
  cl : List (Str × Addr)
  fp : List Addr
/-- a list comprehension of one clause -/
theorem qr_lc {elt iter : Expr} {ifs : List Expr} {scope : Scope} (own : List (Str × Nat)) {W' : WX} (hN : X.N.Nodup) (hi : QI X W tg iter ai) (ok : BlkOk X.N X.env.scope scope own)
    (hg : ∀ i : BlkI, QG (X.blk i.s i.H scope (compEnvC scope i.cl i.C X.env) i.fp) tg js ag)
    (ht : ∀ i : BlkI, QTs (X.blk i.s i.H scope (compEnvC scope i.cl i.C X.env) i.fp) W' ifs at_)
    (he : ∀ i : BlkI, QE (X.blk i.s i.H scope (compEnvC scope i.cl i.C X.env) i.fp) W' elt ae)
    (hj : ∀ j ∈ js, j ∈ own.map (·.2) := by decide) (hc : X.calm = true := by rfl) (hs : ∀ x, foldedSetIterable iter X.env x = pure x := by intro _; rfl) :
    QR X W (.ListComp elt [⟨tg, iter, ifs, 0⟩] scope pos) (aLc ai ag at_ ae (own.map (·.2))) := by
  obtain ⟨wi, p1, s1⟩ := hi
  obtain ⟨g, p2, s2⟩ := qg_all (Y := fun i : BlkI => X.blk i.s i.H scope (compEnvC scope i.cl i.C X.env) i.fp) (K := X.K) (fun _ => rfl) hg
  obtain ⟨tt, p3, s3⟩ := qts_all (Y := fun i : BlkI => X.blk i.s i.H scope (compEnvC scope i.cl i.C X.env) i.fp) (K := X.K) (fun _ => rfl) ht
  obtain ⟨te, p4, s4⟩ := qe_all (Y := fun i : BlkI => X.blk i.s i.H scope (compEnvC scope i.cl i.C X.env) i.fp) (K := X.K) (fun _ => rfl) he
  exact ⟨_, pe_lc hc hN p1 ok (fun s H C cl fp => p2 ⟨s, H, C, cl, fp⟩) (fun s H C cl fp => p3 ⟨s, H, C, cl, fp⟩) (fun s H C cl fp => p4 ⟨s, H, C, cl, fp⟩) hs, snd_lc s1 s2 s3 s4 hj⟩
/-- .. given to a plain local name -/
theorem qs_lc (i : Nat) {y : Str} {py pos' : Pos} {elt iter : Expr} {ifs : List Expr} {scope : Scope} (own : List (Str × Nat)) {W' : WX} (hN : X.N.Nodup) (hi : QI X W tg iter ai) (ok : BlkOk X.N X.env.scope scope own)
    (hsw : swapsWith (.ListComp elt [⟨tg, iter, ifs, 0⟩] scope pos) (some (.Name y py)) pos'.line X.env = pure true)
    (hg : ∀ i : BlkI, QG (X.blk i.s i.H scope (compEnvC scope i.cl i.C X.env) i.fp) tg js ag)
    (ht : ∀ i : BlkI, QTs (X.blk i.s i.H scope (compEnvC scope i.cl i.C X.env) i.fp) W' ifs at_)
    (he : ∀ i : BlkI, QE (X.blk i.s i.H scope (compEnvC scope i.cl i.C X.env) i.fp) W' elt ae)
    (hy : X.N[i]? = some y := by rfl) (hyl : X.env.scope.names.lookup y = some .local := by rfl)
    (hj : ∀ j ∈ js, j ∈ own.map (·.2) := by decide) (hc : X.calm = true := by rfl) (hs : ∀ x, foldedSetIterable iter X.env x = pure x := by intro _; rfl) :
    QS X W (.Assign [.Name y py] (.ListComp elt [⟨tg, iter, ifs, 0⟩] scope pos) pos') (aAsg i (aLc ai ag at_ ae (own.map (·.2)))) := by
  obtain ⟨wi, p1, s1⟩ := hi
  obtain ⟨g, p2, s2⟩ := qg_all (Y := fun i : BlkI => X.blk i.s i.H scope (compEnvC scope i.cl i.C X.env) i.fp) (K := X.K) (fun _ => rfl) hg
  obtain ⟨tt, p3, s3⟩ := qts_all (Y := fun i : BlkI => X.blk i.s i.H scope (compEnvC scope i.cl i.C X.env) i.fp) (K := X.K) (fun _ => rfl) ht
  obtain ⟨te, p4, s4⟩ := qe_all (Y := fun i : BlkI => X.blk i.s i.H scope (compEnvC scope i.cl i.C X.env) i.fp) (K := X.K) (fun _ => rfl) he
  exact ⟨_, ps_setLc hc hN hy hyl hsw p1 ok (fun s H C cl fp => p2 ⟨s, H, C, cl, fp⟩) (fun s H C cl fp => p3 ⟨s, H, C, cl, fp⟩) (fun s H C cl fp => p4 ⟨s, H, C, cl, fp⟩) hs, ss_asg (snd_lc s1 s2 s3 s4 hj)⟩
/-- .. as a value -/
theorem qs_lcF (i : Nat) {y : Str} {py pos' : Pos} {elt iter : Expr} {ifs : List Expr} {scope : Scope} (own : List (Str × Nat)) {W' : WX} (hN : X.N.Nodup) (hi : QI X W tg iter ai) (ok : BlkOk X.N X.env.scope scope own)
    (hsw : swapsWith (.ListComp elt [⟨tg, iter, ifs, 0⟩] scope pos) (some (.Name y py)) pos'.line X.env = pure true)
    (hg : ∀ i : BlkI, QG (X.blk i.s i.H scope (compEnvC scope i.cl i.C X.env) i.fp) tg js ag)
    (ht : ∀ i : BlkI, QTs (X.blk i.s i.H scope (compEnvC scope i.cl i.C X.env) i.fp) W' ifs at_)
    (he : ∀ i : BlkI, QE (X.blk i.s i.H scope (compEnvC scope i.cl i.C X.env) i.fp) W' elt ae)
    (hy : X.N[i]? = some y := by rfl) (hyl : X.env.scope.names.lookup y = some .local := by rfl)
    (hj : ∀ j ∈ js, j ∈ own.map (·.2) := by decide) (hc : X.calm = true := by rfl) (hs : ∀ x, foldedSetIterable iter X.env x = pure x := by intro _; rfl) :
    QS X W (.Assign [.Name y py] (.ListComp elt [⟨tg, iter, ifs, 0⟩] scope pos) pos') (aAsg i (frzR (aLc ai ag at_ ae (own.map (·.2))))) := by
  obtain ⟨wi, p1, s1⟩ := hi
  obtain ⟨g, p2, s2⟩ := qg_all (Y := fun i : BlkI => X.blk i.s i.H scope (compEnvC scope i.cl i.C X.env) i.fp) (K := X.K) (fun _ => rfl) hg
  obtain ⟨tt, p3, s3⟩ := qts_all (Y := fun i : BlkI => X.blk i.s i.H scope (compEnvC scope i.cl i.C X.env) i.fp) (K := X.K) (fun _ => rfl) ht
  obtain ⟨te, p4, s4⟩ := qe_all (Y := fun i : BlkI => X.blk i.s i.H scope (compEnvC scope i.cl i.C X.env) i.fp) (K := X.K) (fun _ => rfl) he
  exact ⟨_, ps_setLc hc hN hy hyl hsw p1 ok (fun s H C cl fp => p2 ⟨s, H, C, cl, fp⟩) (fun s H C cl fp => p3 ⟨s, H, C, cl, fp⟩) (fun s H C cl fp => p4 ⟨s, H, C, cl, fp⟩) hs, ss_asg (snd_frzR (snd_lc s1 s2 s3 s4 hj))⟩
end
end AB
/-! A list comprehension over a list where an exception is handled (its end raises StopIteration, chained to the handled one). -/
namespace AB
open PySem PySem.Spec PyProof.Rows L2 HotX L2H
section
variable {prog : Program} {w : World} {A : Around} {E : Value → Shared → Prop} {s : Shared}
/-- the list iterator's end while the exception at x1 is handled -/
theorem next_end_hot {it l x1 : Addr} {i : Nat} {items : Array Value} {Q : Option Value → Shared → Prop} (hot : HotAt A x1 s.heap) (hx1 : x1 ≠ it) (hit : s.heap.IsListIter it l i) (hl : s.heap.IsList l items) (hx : items[i]? = none)
    (hQ : ∀ h', (∀ b o, b ≠ it → s.heap.get? b = some o → h'.get? b = some o) → Q none { s with heap := h' }) : wpAny (model prog w) A (pyNext (.ref it)) Q E s := by
  obtain ⟨o, ho, hc, hd⟩ := id hit
  obtain ⟨ol, hol, _, nl, hdl⟩ := hl
  obtain ⟨hh, o1, vs1, h1, d1, c1⟩ := hot
  unfold pyNext
  refine wpAny_bind (wpAny_attempt (wpAny_callSpecial?_slot (name := Str.ofString "__next__") (id hit).typeIs slot_listiter_next (wpAny_call_entry slot_listiter_next (id hit).typeIs entry_listiter_next ?_ (args_listiter_next _))))
  show wpAny _ _ (field (.ref it) 0 >>= fun _ => _) _ _ _
  refine wpAny_bind (wpAny_field ho hd (x := Value.ref l) rfl ?_)
  show wpAny _ _ (if (Value.ref l == Value.none) = true then _ else field (.ref it) 1 >>= fun _ => _) _ _ _
  rw [if_neg (fun z : (Value.ref l == Value.none) = true => Bool.false_ne_true z)]
  refine wpAny_bind (wpAny_field ho hd (x := Value.int i 0) rfl ?_)
  show wpAny _ _ (seqItems? (.ref l) >>= fun _ => _) _ _ _
  refine wpAny_bind (wpAny_seqItems hol hdl ?_)
  simp only [Int.toNat_natCast, hx]
  refine wpAny_bind (wpAny_rule (wpAny_bind (wpAny_setField ho hd (by simp) ?_)))
  show wpAny _ _ (newExc (.type "StopIteration") [] >>= fun _ => _) _ _ _
  simp only [newExc, newTuple]
  refine wpAny_bind (wpAny_bind (wpAny_newObj_type (wpAny_bind (m := firstArgMember _ _) (wpAny_of_eq (a := Value.none) (by first | rfl | (simp only [firstArgMember]; rfl)) (wpAny_newObj_type ?_ (by size_fits)))) (by size_fits)))
  have k1 : (s.heap.update it (Obj.mapFields (·.setIfInBounds 0 .none))).get? x1 = some o1 := (Heap.get?_update_other _ _ (Ne.symm hx1)).trans h1
  refine raiseNew_hot ⟨hh, o1, vs1, Heap.get?_push_of_some _ (Heap.get?_push_of_some _ k1), d1, c1⟩ (Nat.ne_of_lt (Heap.lt_size (Heap.get?_push_of_some _ k1))) (Heap.get?_push_size _ rfl) rfl (by first | (simp; done) | (simp; omega) | (simp only [Array.size_append]; simp; omega)) ?_
  refine wpAny_bind (wpAny_isInstance (T := "StopIteration") (b := true) ⟨_, Heap.get?_update_self _ (Heap.get?_push_size _ rfl) rfl, rfl⟩ isSubtype_stop (wpAny_pure (hQ _ fun b u hb e => ?_)))
  have k2 := (Heap.get?_update_other (a := it) s.heap (Obj.mapFields (·.setIfInBounds 0 .none)) (Ne.symm hb)).trans e
  exact (Heap.get?_update_other _ _ (Nat.ne_of_gt (Heap.lt_size (Heap.get?_push_of_some _ k2)))).trans (Heap.get?_push_of_some _ (Heap.get?_push_of_some _ k2))
end

section
variable {X : Cx} {tg elt l : Expr} {ifs : List Expr} {scope : Scope} {own : List (Str × Nat)} {pos : Pos} {g : TG} {tt : TT} {tl te : TE}
/-- [elt for target in a list if ..] where an exception is handled -/
theorem pe_lcZ (hot : HotC X) (hN : X.N.Nodup) (hl : PE X l tl) (ok : BlkOk X.N X.env.scope scope own)
    (hg : ∀ i : BlkI, PG (X.blk i.s i.H scope (compEnvC scope i.cl i.C X.env) i.fp) tg g) (ht : ∀ i : BlkI, PTs (X.blk i.s i.H scope (compEnvC scope i.cl i.C X.env) i.fp) ifs tt) (he : ∀ i : BlkI, PE (X.blk i.s i.H scope (compEnvC scope i.cl i.C X.env) i.fp) elt te)
    (hs : ∀ x, foldedSetIterable l X.env x = pure x := by intro _; rfl) : PE X (.ListComp elt [⟨tg, l, ifs, 0⟩] scope pos) (tLc (iList X.K tl) g tt te (own.map (·.2))) := by
  refine ⟨fun pins s σ H Q I h => ?_⟩
  obtain ⟨p, ⟨hh, v1, e1, c1⟩, hp⟩ := hot
  rw [eval_ListComp]
  have caps : ∀ y ∈ scope.names, y.2 = .free → ∃ c, X.env.cells.lookup y.1 = some c := fun y hy e => (ok.free y hy e).elim (fun k => I.ok.has _ (.inl k)) fun k => I.ok.has _ (.inr k)
  refine wpAny_comprehension_free rfl hs (closure_ok caps) ok.kind (fun y hy e => (ok.uniq y hy).trans (by rw [e])) (thn (hl.run pins s σ H _ I h) fun xv s1 hx => ?_)
  obtain ⟨x, H1, I1, rx, a, ea, ⟨xs, hq⟩, q⟩ := hx
  subst ea
  cases rx
  obtain ⟨its0, rv0, pl0, hz0⟩ := I1.list hq
  refine wpAny_pyIter_list pl0.isList ?_
  generalize hit : s1.heap.objs.size = it
  generalize hs2 : ({ s1 with heap := s1.heap.push { cls := .type "list_iterator", data := .fields #[.ref a, .int 0 0] } } : Shared) = s2
  have k12 : ∀ b o, s1.heap.get? b = some o → s2.heap.get? b = some o := fun b o e => by rw [← hs2]; exact Heap.get?_push_of_some _ e
  have I2 : Inv X pins σ H1 s2 := by rw [← hs2]; exact I1.kept (t' := s1.toks) fun b o e => Heap.get?_push_of_some _ e
  have it2 : s2.heap.IsListIter it a 0 := by rw [← hs2, ← hit]; exact ⟨_, Heap.get?_push_size _ rfl, rfl, rfl⟩
  have sz2 : s2.heap.objs.size = it + 1 := by rw [← hs2, ← hit]; exact Heap.size_push ..
  have fit : FpOk X pins H1 it := by rw [← hit]; exact I1.fpOk (Nat.le_refl _) (I1.hok.fresh (Nat.le_refl _))
  refine wpAny_newObj_type (newEnv_comp ?_) (by show 0 ≤ sizeLine; decide)
  generalize hD : s2.heap.objs.size = D
  have nD : H1 D = none := I2.hok.fresh (Nat.le_of_eq hD)
  obtain ⟨Wv, ⟨m0, w0⟩, turn⟩ := q D nD
  generalize hs3 : ({ s2 with heap := s2.heap.push { cls := .type "list", data := .seq ([] : List Value).toArray } } : Shared) = s3
  have k23 : ∀ b o, s2.heap.get? b = some o → s3.heap.get? b = some o := fun b o e => by rw [← hs3]; exact Heap.get?_push_of_some _ e
  have I3 : Inv X pins σ (upd H1 D (.lst [])) s3 := by
    rw [← hs3]
    exact I2.laid (t' := s2.toks) (fun b o e => Heap.get?_push_of_some _ e) (Nat.le_of_eq hD) ⟨Nat.zero_le _, [], 0, .nil, by rw [← hD]; exact Heap.get?_push_size _ rfl⟩
  have neD : it ≠ D := by rw [← hD, sz2]; exact Nat.ne_of_lt (Nat.lt_succ_self _)
  have sz3 : it < s3.heap.objs.size := by rw [← hs3]; show it < (s2.heap.push _).objs.size; rw [Heap.size_push, sz2]; exact Nat.lt_succ_of_lt (Nat.lt_succ_self _)
  have f3 : ∀ b ∈ [it], FpOk X pins (upd H1 D (.lst [])) b ∧ b < s3.heap.objs.size := fun b hb => by
    cases List.mem_singleton.mp hb
    exact ⟨⟨by rw [upd_ne neD]; exact fit.1, fit.2⟩, sz3⟩
  have I4 := block_start I3 ok hN f3
  have P3 := I3.pin p (List.mem_append_left _ hp)
  have pfs : p.1 ∉ frs X.stack := fun hm => (List.mem_cons.mp (I3.stkSub p.1 hm)).elim P3.2.2.1 P3.2.2.2.1
  have pit : p.1 ≠ it := (f3 it (List.mem_singleton.mpr rfl)).1.2.2.2.2.2 p (List.mem_append_left _ hp)
  have pg := hg ⟨s3, upd H1 D (.lst []), s3.heap.objs.size, cellsFrom (s3.heap.objs.size + 1) scope.names (cloFrom X.env.cells scope.names []), [it]⟩
  have pt := ht ⟨s3, upd H1 D (.lst []), s3.heap.objs.size, cellsFrom (s3.heap.objs.size + 1) scope.names (cloFrom X.env.cells scope.names []), [it]⟩
  have pe := he ⟨s3, upd H1 D (.lst []), s3.heap.objs.size, cellsFrom (s3.heap.objs.size + 1) scope.names (cloFrom X.env.cells scope.names []), [it]⟩
  dsimp only at pg pt pe
  show codeAny (model X.prog X.w) X.A (.compStart (.ListComp elt [⟨tg, l, ifs, 0⟩] scope pos) 0 (.ref it) (.ref D) (compEnvC scope (cellsFrom (s3.heap.objs.size + 1) scope.names (cloFrom X.env.cells scope.names [])) s3.heap.objs.size X.env)) (compPost (model X.prog X.w) X.A X.xe none (EP X pins σ Q) (.ref D) s3.heap.objs.size) { s3 with heap := pushCells (s3.heap.push { cls := .type "dict", data := .dict #[] }) scope.names }
  generalize hce : compEnvC scope (cellsFrom (s3.heap.objs.size + 1) scope.names (cloFrom X.env.cells scope.names [])) s3.heap.objs.size X.env = ce at I4 pg pt pe ⊢
  have cL : ce.locals = s3.heap.objs.size := by rw [← hce] <;> rfl
  generalize hH3 : upd H1 D (.lst []) = H3 at I3 I4 pg pt pe w0 P3 f3
  generalize hs4 : ({ s3 with heap := pushCells (s3.heap.push { cls := .type "dict", data := .dict #[] }) scope.names } : Shared) = s4 at I4 ⊢
  have st4 : s4.heap.IsListIter it a 0 := it2.at fun o e => by rw [← hs4]; exact pushCells_keeps _ _ _ _ (Heap.get?_push_of_some _ (k23 _ _ e))
  let Y : Cx := X.blk s3 H3 scope ce [it]
  have stand : ∀ {σ' : L2.St} {H' : Hp} {s' : Shared}, Inv Y [] σ' H' s' → H' it = none → ∀ b ∈ [it], FpOk Y [] H' b := fun {σ' H' s'} J hn b hb => by
    have z := List.mem_singleton.mp hb
    exact ⟨by rw [z]; exact hn, (J.ok.exf b hb).1, J.ok.exfs b hb, .inl hb, fun x c e => (J.ok.exf b hb).2 x c e, fun r hr => absurd (show r ∈ ([] : List (Addr × Obj)) ++ [] from hr) (by simp)⟩
  have go : ∀ (R : Result → Shared → Prop), R = compPost (model X.prog X.w) X.A X.xe none (EP X pins σ Q) (.ref D) s3.heap.objs.size → codeAny (model X.prog X.w) X.A (.compLoop (.ListComp elt [⟨tg, l, ifs, 0⟩] scope pos) 0 (.ref it) (.ref D) ce) R s4 := by
    intro R hR
    subst hR
    refine compLoop_any (fun n s' => ∃ i H', Inv Y [] (wipe σ (own.map (·.2))) H' s' ∧ s'.heap.IsListIter it a i ∧ H' it = none ∧ Wv i n H') ?_ m0 ⟨0, H3, I4, st4, (f3 it (List.mem_singleton.mpr rfl)).1.1, w0⟩
    rintro n s5 ⟨i, H5, I5, st5, n5, w5⟩
    obtain ⟨f0, f1, f2, f3', f4, f5⟩ := stand I5 n5 it (List.mem_singleton.mpr rfl)
    rcases turn i n H5 w5 with ⟨⟨ys, hy, hle⟩, qq⟩ | ⟨⟨ys, y, hy, hget⟩, Nx, hNx, step⟩
    · obtain ⟨its, rv, pl, hz⟩ := I5.list hy
      have h5 : s5.heap.get? p.1 = some p.2 := I5.base.keep p.1 p.2 P3.1 P3.2.1 pfs (fun z => pit (List.mem_singleton.mp z))
      refine next_end_hot ⟨hh, p.2, v1, h5, e1, c1⟩ pit st5 pl.isList (by have zl := rv.length; simp; omega) fun h' k' => ?_
      have I6 : Inv Y [] (wipe σ (own.map (·.2))) H5 { s5 with heap := h' } := I5.turned (t' := s5.toks) k' f0 f1 f3' f4 f5
      have I7 : Inv X pins σ H5 { s5 with heap := h' } := I3.call' (ch := [it]) I6.os I6.base I6.hok I6.bare fun b hb => (f3 b hb).1.2 |> fun z => ⟨z.2.2.1, z.1, z.2.2.2.1, z.2.2.2.2⟩
      have nC : H5 s3.heap.objs.size = none := cL ▸ (show H5 Y.env.locals = none from I6.free)
      obtain ⟨m, hn, _⟩ := I6.loc
      have hn : h'.Ns s3.heap.objs.size m := cL ▸ (show h'.Ns Y.env.locals m from hn)
      obtain ⟨g0, g1, g2, g3, g4, g5⟩ := I3.fpOk (Nat.le_refl _) nC
      exact ⟨m, hn, fun h'' sb => ⟨.ref D, H5, I7.turned (t' := s5.toks) (fun b o hb e => (sb.2 b hb).trans e) g0 g1 g3 g4 g5, rfl, qq⟩⟩
    · obtain ⟨its, rv, pl, hz⟩ := I5.list hy
      obtain ⟨u, hu, ru⟩ := rv.get hget
      refine wpAny_pyNext_list_item st5 pl.isList (x := u) (by simpa using hu) fun h' st' sb => ?_
      have I6 : Inv Y [] (wipe σ (own.map (·.2))) H5 { s5 with heap := h' } := I5.turned (t' := s5.toks) (fun b o hb e => (sb.2 b hb).trans e) f0 f1 f3' f4 f5
      obtain ⟨o, eo, co, d⟩ := id st'
      refine go_of (s := { s5 with heap := h' }) eo co d (by decide) ?_
      have I6' := I6.pinned (stand I6 n5) (fun b hb => by cases List.mem_singleton.mp hb; exact ⟨o, eo, fun v z => by rw [d] at z; cases z⟩)
      refine thnF (pg.run _ { s5 with heap := h' } _ H5 y u _ I6' ru (step y H5 ⟨rfl, fun zs hz' => by rw [I6.list_inj hz' hy]; exact hget⟩)) fun _ s8 ⟨σ8, H8, I8, hw8, q8⟩ => ?_
      refine thnF (pt.run _ s8 σ8 H8 _ I8 q8) fun b s9 ⟨H9, I9, q9⟩ => ?_
      have fin : ∀ {s' : Shared} {H' : Hp}, Inv Y ([] ++ pinsAt [it] h') σ8 H' s' → Nx H' → ∃ m, m < n ∧ ∃ i H', Inv Y [] (wipe σ (own.map (·.2))) H' s' ∧ s'.heap.IsListIter it a i ∧ H' it = none ∧ Wv i m H' := fun {s' H'} J nx => by
        obtain ⟨m', hm, w'⟩ := hNx H' nx
        have z := J.pin (it, o) (List.mem_append_right _ (List.mem_append_right _ (mem_pinsAt (List.mem_singleton.mpr rfl) eo)))
        refine ⟨m', hm, i + 1, H', (J.unpinned (pins := [])).weak (by rw [← hw8, wipe_length]) (fun j v e => ?_), st'.at fun o' e' => ?_, z.2.1, w'⟩
        · rw [← hw8] at e
          exact (wipe_some e).1
        · rw [eo] at e'
          cases e'
          exact z.1
      cases b with
      | false =>
        simp only [Bool.false_eq_true, if_false] at q9 ⊢
        exact fin I9 q9
      | true =>
        simp only [if_true] at q9 ⊢
        exact thnF (pe.run _ s9 σ8 H9 _ I9 q9) fun z s10 ⟨yv, H10, I10, r10, acc, hD10, hz10, nx⟩ => app_ok (X := Y) I10 hD10 hz10 r10 fun s11 I11 => fin I11 nx
  exact codeAny_compStart_list (go _ rfl) (wpAny_pyIter_listiter st4 (go _ rfl))
end
end AB
/-! The word of a caught error. -/
namespace AB
open PySem PySem.Spec PyProof.Rows L2

def wordOf : Nat → Str
  | 0 => "range"
  | 1 => "form"
  | 2 => "none"
  | 3 => "refused"
  | _ => "much"
/-- the five own classes of errors -/
structure Errs (K : PySem.W.Frag) (mg : Str → Option Value) (C : Nat → Addr) : Prop where
  g0 : mg "OutOfRange" = some (.ref (C 0))
  g1 : mg "Malformed" = some (.ref (C 1))
  g2 : mg "NotThere" = some (.ref (C 2))
  g3 : mg "Refused" = some (.ref (C 3))
  g4 : mg "TooMuch" = some (.ref (C 4))
  e : ∀ i, i < 5 → ExcC K (C i)
  k : ∀ i j, i < 5 → j < 5 → PySem.W.kitOne K (.ref (C i)) (.ref (C j)) = some (decide (i = j))
  mi : mg "isinstance" = none
  ml : mg "len" = none
theorem call_isP {X : Cx} {a D : Addr} {oe : Obj} (hp : (a, oe) ∈ X.pn) (C : ExcC X.K D) (hz : Zc (.ref D) none oe) (hf : ∃ vs, oe.data = .fields vs) : CallR X (.builtin "isinstance") (rIsE X.K D a) := by
  intro pins s σ H xs us Q I r h
  obtain ⟨c, cv, b, rfl, hcv, e, q⟩ := h
  obtain ⟨u1, u2, rfl, r1, r2⟩ := Vals.two r
  obtain rfl : u1 = Value.ref a := r1
  have ec := hcv _ r2
  subst ec
  obtain ⟨hget, _⟩ := I.pin (a, oe) (List.mem_append.mpr (.inl hp))
  obtain ⟨vs, hv⟩ := hf
  have J : PySem.W.InstAt s.heap a oe D none := by
    obtain ⟨oc, od, oda, osl⟩ := oe
    obtain ⟨h1, h2⟩ := hz
    dsimp only at h1 h2 hv
    subst h1 h2 hv
    exact ⟨hget, rfl, rfl, trivial⟩
  exact PySem.W.kia_one (PySem.W.handS_kitx_exc C.hg C.hk C.hs C.hd C.ha C.hn C.ht C.hm) I.kIn J e (fun z => nomatch z) fun tk => ⟨.bl b, H, I.kept (t' := tk) fun _ _ z => z, rfl, q⟩
/-- what the def promises that words a caught error -/
structure FnW (P : Program) (w : World) (K : PySem.W.Frag) (mg : Str → Option Value) (base : Heap) (k : Nat) (f : Addr) (fd : FuncData) (C : Nat → Addr) : Prop where
  run : ∀ (A : Around) (outer : List Env) (s : Shared) (H : Hp) (args : Args) (p : Addr × Obj) (j : Nat) (Q : VK) (E : XK), L2H.RoomH k A → L2H.Hot1 A p → L2H.PinOk outer H s p → Env0 P w K mg base A outer s H → BindsTo s fd args [("e", .ref p.1)] → Zc (.ref (C j)) none p.2 → j < 5 → (∀ H', Same H H' → Q (.str (wordOf j)) H') →
    codeAny (model P w) A (.call (.ref f) args) (CR (L2N.CX P w) outer P w H s Q E) s
theorem okW {P : Program} {w : World} {K : PySem.W.Frag} {mg : Str → Option Value} {base : Heap} {x qual : Str} {st : Stmt} {f : Addr} {fd : FuncData} {N : List Str} {k : Nat} {C : Nat → Addr} (F : Fun K x qual st f fd) (S : FnScope N ["e"] (defScope st))
    (body : ∀ (cdv : Value) (A : Around) (outer : List Env) (s : Shared) (H : Hp) (p : Addr × Obj) (j : Nat) (Q : VK) (E : XK), L2H.Hot1 A p → L2H.RoomH k (A.deeper (envOfC qual (defScope st) s.heap.objs.size f cdv)) → Zc (.ref (C j)) none p.2 → j < 5 → (∀ H', Same H H' → Q (.str (wordOf j)) H') →
      ∃ t, PSs (L2H.cxH (L2N.CX P w) P w K mg base N qual (defScope st) f cdv A outer s H E p) (defBody st) t ∧ t { nx := fun _ H' => Q .non H', rt := Q } (L2.start N [.ref p.1]) H) : FnW P w K mg base (k + 1) f fd C := by
  obtain ⟨oc, od, kV, doc, pm, an, cdv, ct, osl, rfl, lk, hcd⟩ := F.ex
  refine ⟨fun A outer s H args p j Q E hr hot hpin e0 hb hz hj hq => ?_⟩
  let sp : Sp := fun vs H Q _ => vs = [V.ref p.1] ∧ ∀ H', Same H H' → Q (.str (wordOf j)) H'
  have KX : K.In s.heap := e0.mod.kin.keeps fun b o e => (e0.bs b o e).1
  have lim : s.heap.NoLimit := e0.mod.nolimit.keeps fun b o e => (e0.bs b o e).1
  have hkind : ∀ y ∈ [(("e" : Str), Value.ref p.1)], (defScope st).names.lookup y.1 = some .local ∨ ((defScope st).names.lookup y.1 = some .cell ∧ ((cellsFrom (s.heap.objs.size + 1) (defScope st).names []).lookup y.1).isSome = true) := fun ⟨n, v⟩ hy => by
    have en : n = "e" := by
      have := List.mem_singleton.mp hy
      exact (Prod.mk.inj this).1
    rcases S.par n (by rw [en]; exact List.mem_singleton.mpr rfl) with q | q
    · exact .inl q
    · exact .inr ⟨q, PySem.W.cellsFrom_some _ _ _ (.inl q)⟩
  refine codeAny_call_function hr.depth (KX _ _ lk) rfl S.co S.gen rfl (PySem.W.codeRec_of KX hcd) (hb _ _ _ _ ?_)
  refine wpAny_newFunctionEnv_cells S.kind hkind fun env he s1 x => ?_
  subst he
  refine ⟨lim.keeps x.toInCall.keep, codeAny_func ?_⟩
  obtain ⟨t, ht, hq2⟩ := body cdv A outer s H p j Q E hot (hr.deeper _) hz hj hq
  have I := L2H.inv_startH (vs := [V.ref p.1]) (us := [Value.ref p.1]) (CX := L2N.CX P w) (E := E) S hpin e0 rfl (.cons rfl .nil) x
  refine wpAny_mono (ht.run [] s1 (L2.start N [.ref p.1]) H _ I hq2) (fun fl s' hs => ?_) fun e s' hs => hs
  cases fl with
  | ret u =>
    obtain ⟨v, σ', H', J, rv, q⟩ := hs
    exact ⟨v, H', J.os, J.bare, J.base, J.hok, rv, q⟩
  | next =>
    obtain ⟨σ', H', J, q⟩ := hs
    exact ⟨.non, H', J.os, J.bare, J.base, J.hok, rfl, q⟩
  | brk =>
    obtain ⟨_, _, _, q⟩ := hs
    exact False.elim q
  | cont =>
    obtain ⟨_, _, _, q⟩ := hs
    exact False.elim q
/-- the call in the suite -/
def tWord (C : Nat → Addr) (i : Nat) (a : Addr) (cls : Value) : TE := fun σ H Q => σ[i]? = some (some (.ref a)) ∧ ∃ j, j < 5 ∧ cls = .ref (C j) ∧ ∀ H', Same H H' → Q (.str (wordOf j)) H'
theorem pe_word {X : Cx} {k i : Nat} {f a : Addr} {fd : FuncData} {oe : Obj} {C : Nat → Addr} {cls : Value} {pn : List (Addr × Obj)} {x n : Str} {q q2 pos : Pos} (F : FnW X.prog X.w X.K X.mg X.base k f fd C) (hr : Room k X.A) (hz : L2N.Zn cls none oe) (hf : ∃ vs, oe.data = .fields vs)
    (hm : X.mg x = some (.ref f)) (hk : PySem.W.keepIn X.K (.ref f) = true) (hb : Binds X.K fd ["e"] []) (hN : X.N[i]? = some n) (hv : Vis X.env.scope n) (hd : (n == ("__debug__" : Str)) = false := by decide) (hcd : (n == ("__classdict__" : Str)) = false := by decide) (hg : Gl X x := by rfl)
    (hdb : (x == ("__debug__" : Str)) = false := by decide) (he : starEach [.Name n q2] X.env = (false, eval (.Name n q2) X.env) :: starEach [] X.env := by rfl) (hpl : (backTo pos (starEach [] X.env)).any (·.1) = false := by rfl) :
    PE (X.suite a ((a, oe) :: pn)) (.Call (.Name x q) [.Name n q2] [] pos) (tWord C i a cls) := by
  refine ⟨fun pins s σ H Q I h => ?_⟩
  obtain ⟨hσ, j, hj, rfl, hq⟩ := h
  have ha : PA (X.suite a ((a, oe) :: pn)) [.Name n q2] (tCons (tVar i) tNil) := pa_cons (pe_var hN hv hd hcd) pa_nil he
  refine wpAny_Call_Name_kw (ld_glob (X := X.suite a ((a, oe) :: pn)) I hg hm ?_ hdb)
  refine PySem.W.callWith_K (h₀ := X.base) I.ok.mod.kin hk (thn (ha.run pos pins s σ H (fun vs H1 => vs = [V.ref a] ∧ H1 = H) I ⟨_, hσ, rfl, rfl⟩) fun us s1 hh => ?_) he hpl
  obtain ⟨vs, H1, I1, r1, ev, eH⟩ := hh
  subst ev eH
  refine ⟨I1.kIn, ?_⟩
  obtain ⟨u, rfl, ru⟩ := Vals.one r1
  obtain rfl : u = Value.ref a := ru
  have b := hb s1 [.ref a] I1.kIn rfl
  have P1 := I1.pin (a, oe) (List.mem_append_left _ List.mem_cons_self)
  have hpin : L2H.PinOk X.stack H1 s1 (a, oe) := ⟨P1.1, P1.2.1, fun hm => (List.mem_cons.mp (I1.stkSub a hm)).elim P1.2.2.1 P1.2.2.2.1, P1.2.2.2.2⟩
  obtain ⟨vs, hvs⟩ := hf
  have hot : L2H.Hot1 (X.A.mark (some (.ref a))) (a, oe) := ⟨rfl, vs, hvs, hz.2.2 vs hvs⟩
  refine wpAny_call (codeAny_mono (F.run _ X.stack s1 H1 ⟨[.ref a], []⟩ (a, oe) j Q (fun _ _ _ => False) ⟨hr.dp, hr.un⟩ hot hpin I1.env0 b hz.zc hj hq) fun r s' hq => ?_)
  cases r with
  | error e =>
    obtain ⟨_, _, _, _, _, _, _, _, _, _, _, _, w⟩ := hq
    exact w.elim
  | ok fl =>
    cases fl with
    | ret u => exact I1.after hq
    | next => exact False.elim hq
    | brk => exact False.elim hq
    | cont => exact False.elim hq

/-! ### the body of the def -/
section
variable {K : PySem.W.Frag} {C : Nat → Addr} {x a : Addr} {j : Nat} {H : Hp}
abbrev tIs (K : PySem.W.Frag) (D x c : Addr) : TE := tCB (rIsE K D x) (tCons (tVar 0) (tCons (tC (.ref c)) tNil))
theorem is_ok {σ : L2.St} {Q : VK} {D c : Addr} {b : Bool} (h0 : σ[0]? = some (some (.ref x))) (e : PySem.W.kitOne K (.ref D) (.ref c) = some b) (q : Q (.bl b) H) : tIs K D x c σ H Q :=
  ⟨.ref x, h0, .ref c, .ref c, b, rfl, fun u r => r, e, q⟩
abbrev tKinds (K : PySem.W.Frag) (C : Nat → Addr) (x : Addr) (D : Addr) : TE := tLst (tCons (tIs K D x (C 0)) (tCons (tIs K D x (C 1)) (tCons (tIs K D x (C 2)) (tCons (tIs K D x (C 3)) (tCons (tIs K D x (C 4)) tNil)))))
abbrev bitsW (j : Nat) : List V := [.bl (decide (j = 0)), .bl (decide (j = 1)), .bl (decide (j = 2)), .bl (decide (j = 3)), .bl (decide (j = 4))]
theorem kinds_ok {σ : L2.St} {Q : VK} (hk : ∀ i j, i < 5 → j < 5 → PySem.W.kitOne K (.ref (C i)) (.ref (C j)) = some (decide (i = j))) (hj : j < 5) (h0 : σ[0]? = some (some (.ref x))) (q : ∀ p, H p = none → Q (.ref p) (upd H p (.lst (bitsW j)))) : tKinds K C x (C j) σ H Q :=
  is_ok h0 (hk j 0 hj (by decide)) (is_ok h0 (hk j 1 hj (by decide)) (is_ok h0 (hk j 2 hj (by decide)) (is_ok h0 (hk j 3 hj (by decide)) (is_ok h0 (hk j 4 hj (by decide)) ⟨by show 5 ≤ sizeLine; rw [sizeLine_eq]; omega, fun p hp => q p hp⟩))))
abbrev rLenQ (K : PySem.W.Frag) : List V → Hp → VK → Prop := fun xs H Q => ∃ p ys, xs = [V.ref p] ∧ (SqL K H p ys ∨ SqT K H p ys) ∧ Q (.int ys.length) H
abbrev tSome (K : PySem.W.Frag) : TE := tCB (rLenQ K) (tCons (tLc (iList K (tVar 1)) (gName 2) (fun σ H Q => tVar 2 σ H fun x H' => ∃ k, TruV K x H' k ∧ Q k H') (tVar 2) [2]) tNil)
def pickT (bs : List Bool) : List V := (bs.filter id).map V.bl
theorem some_ok {Q : VK} (bs : List Bool) (hb : bs.length ≤ 5) (ha : H a = some (.lst (bs.map V.bl))) (q : ∀ H', Same H H' → Q (.int (pickT bs).length) H') : tSome K [some (.ref x), some (.ref a), none] H Q := by
  refine ⟨.ref a, rfl, a, rfl, ⟨_, .inl (.inl ha)⟩, fun D hD => ?_⟩
  have nD : a ≠ D := fun z => by rw [z, hD] at ha; cases ha
  refine ⟨fun i m H' => i + m = bs.length ∧ Same H H' ∧ H' D = some (.lst (pickT (bs.take i))), ⟨bs.length, by omega, same_new hD, upd_same⟩, fun i m H' w => ?_⟩
  obtain ⟨e, sm, hd⟩ := w
  have hA : SqL K H' a (bs.map V.bl) := .inl (.inl (sm a _ ha))
  by_cases hi : i < bs.length
  · have gi : (bs.map V.bl)[i]? = some (.bl bs[i]) := by rw [List.getElem?_map, List.getElem?_eq_getElem hi]; rfl
    refine .inr ⟨⟨_, _, hA, gi⟩, fun H2 => Same H H2 ∧ H2 D = some (.lst (pickT (bs.take (i + 1)))), fun H2 h2 => ⟨m - 1, by omega, by omega, h2.1, h2.2⟩, fun y H2 hy => ?_⟩
    obtain ⟨rfl, hy⟩ := hy
    have ey : y = .bl bs[i] := Option.some.inj ((hy _ hA).symm.trans gi)
    subst ey
    refine ⟨rfl, .bl bs[i], rfl, bs[i], rfl, ?_⟩
    have et : bs.take (i + 1) = bs.take i ++ [bs[i]] := by rw [List.take_succ, List.getElem?_eq_getElem hi]; rfl
    have ep : pickT (bs.take (i + 1)) = pickT (bs.take i) ++ (if bs[i] = true then [V.bl bs[i]] else []) := by
      unfold pickT
      rw [et, List.filter_append, List.map_append]
      congr 1
      cases bs[i] <;> rfl
    cases hv : bs[i] with
    | false =>
      rw [hv] at ep
      simp only [Bool.false_eq_true, if_false, List.append_nil] at ep ⊢
      exact ⟨sm, by rw [hd, ep]⟩
    | true =>
      rw [hv] at ep
      simp only [if_true] at ep ⊢
      refine ⟨.bl true, rfl, pickT (bs.take i), hd, ?_, ?_, ?_⟩
      · have h1 : (pickT (bs.take i)).length ≤ (bs.take i).length := by unfold pickT; rw [List.length_map]; exact List.length_filter_le ..
        have h2 : (bs.take i).length ≤ bs.length := by rw [List.length_take]; omega
        rw [sizeLine_eq]; omega
      · intro b o e2
        rw [upd_ne (fun z => by rw [z, hD] at e2; cases e2)]
        exact sm b o e2
      · rw [upd_same, ep]
  · refine .inl ⟨⟨_, hA, by rw [List.length_map]; omega⟩, ?_⟩
    rw [List.take_of_length_le (by omega)] at hd
    exact ⟨D, pickT bs, rfl, .inl (.inl (.inl hd)), q H' sm⟩
def tNames : TA := tCons (tC (.str "range")) (tCons (tC (.str "form")) (tCons (tC (.str "none")) (tCons (tC (.str "refused")) (tCons (tC (.str "much")) tNil))))
def tWhich (K : PySem.W.Frag) : TE := tOp (rIx K) (tLst tNames) (tBM K "list" (rIndex K) (tVar 1) (tCons (tC (.bl true)) tNil))
theorem five (hj : j < 5) : j = 0 ∨ j = 1 ∨ j = 2 ∨ j = 3 ∨ j = 4 := by omega
theorem bits_at (hj : j < 5) : (bitsW j)[j]? = some (.bl true) := by
  rcases five hj with rfl | rfl | rfl | rfl | rfl <;> rfl
theorem bits_flat : (bitsW j).all flatV = true := rfl
theorem bits_no (hj : j < 5) : ∀ (m : Nat) (z : V), m < j → (bitsW j)[m]? = some z → eqV z (.bl true) = false := by
  intro m z hm hz
  have e : z = .bl (decide (j = m)) := by
    rcases five (show m < 5 by omega) with rfl | rfl | rfl | rfl | rfl <;> exact (Option.some.inj hz).symm
  rw [e, decide_eq_false (by omega)]
  rfl
def namesW : List V := [.str "range", .str "form", .str "none", .str "refused", .str "much"]
theorem names_at (hj : j < 5) : atI namesW (j : Int) = some (.str (wordOf j)) := by
  rcases five hj with rfl | rfl | rfl | rfl | rfl <;> rfl
theorem pick_len (hj : j < 5) : (pickT [decide (j = 0), decide (j = 1), decide (j = 2), decide (j = 3), decide (j = 4)]).length = 1 := by
  rcases five hj with rfl | rfl | rfl | rfl | rfl <;> rfl
theorem index_ok {Q : VK} (hj : j < 5) (ha : SqL K H a (bitsW j)) (q : Q (.int j) H) : rIndex K (.ref a) [.bl true] H Q :=
  ⟨a, bitsW j, .bl true, j, .bl true, rfl, rfl, ha, rfl, bits_flat, bits_at hj, rfl, bits_no hj, q⟩
theorem names_ok {σ : L2.St} {H : Hp} {Q : VK} (q : ∀ p, H p = none → Q (.ref p) (upd H p (.lst namesW))) : tLst tNames σ H Q := ⟨by show 5 ≤ sizeLine; rw [sizeLine_eq]; omega, q⟩
theorem opI {r : R2} {ta tb : TE} {σ : L2.St} {H : Hp} {Q : VK} (h : ta σ H fun x H1 => tb σ H1 fun y H2 => r x y H2 Q) : tOp r ta tb σ H Q := h
theorem seqI {t u : TS} {D : Ends} {σ : L2.St} {H : Hp} (h : t { D with nx := u D } σ H) : tSeq t u D σ H := h
theorem asgI {te : TE} {i : Nat} {D : Ends} {σ : L2.St} {H : Hp} (h : te σ H fun v H1 => D.nx (σ.set i (some v)) H1) : tAsg te (gName i) D σ H := h
theorem retI {te : TE} {D : Ends} {σ : L2.St} {H : Hp} (h : te σ H D.rt) : tRet te D σ H := h
theorem ifI {c : TT} {t u : TS} {D : Ends} {σ : L2.St} {H : Hp} (h : c σ H fun b H1 => if b = true then t D σ H1 else u D σ H1) : tIfS c t u D σ H := h
theorem tstI {t : TE} {σ : L2.St} {H : Hp} {Q : Bool → Hp → Prop} (h : t σ H fun x H' => ∃ k, x = .bl k ∧ Q k H') : tTest t σ H Q := h
theorem which_ok {σ : L2.St} {Q : VK} (hj : j < 5) (h1 : σ[1]? = some (some (.ref a))) (ha : H a = some (.lst (bitsW j))) (q : ∀ H', Same H H' → Q (.str (wordOf j)) H') : tWhich K σ H Q := by
  refine opI (names_ok fun p hp => ?_)
  have sm : Same H (upd H p (.lst namesW)) := same_new hp
  have hA : SqL K (upd H p (.lst namesW)) a (bitsW j) := .inl (.inl (sm a _ ha))
  refine ⟨.ref a, h1, .inl ⟨rfl, _, hA⟩, ?_⟩
  show rIndex K (.ref a) [.bl true] (upd H p (.lst namesW)) fun y H2 => rIx K (.ref p) y H2 Q
  exact index_ok hj hA (.inl ⟨p, _, j, _, rfl, rfl, .inl (.inl upd_same), names_at hj, q _ sm⟩)
theorem pick_no (hj : j < 5) {Q : VK} {H : Hp} (q : Q (.bl false) H) : rNe (.int (pickT [decide (j = 0), decide (j = 1), decide (j = 2), decide (j = 3), decide (j = 4)]).length) (.int 1) H Q := by
  rw [pick_len hj]
  exact ⟨rfl, q⟩
def tWordBody (K : PySem.W.Frag) (C : Nat → Addr) (x D : Addr) : TS :=
  tSeq (tAsg (tKinds K C x D) (gName 1)) (tSeq (tIfS (tTest (tOp rNe (tSome K) (tC (.int 1)))) (tRet (tC (.str "many"))) tNext) (tRet (tWhich K)))
theorem wordBody_ok {D : Ends} (hk : ∀ i j, i < 5 → j < 5 → PySem.W.kitOne K (.ref (C i)) (.ref (C j)) = some (decide (i = j))) (hj : j < 5) (q : ∀ H', Same H H' → D.rt (.str (wordOf j)) H') :
    tWordBody K C x (C j) D [some (.ref x), none, none] H := by
  refine seqI (asgI (kinds_ok hk hj rfl fun p hp => seqI (ifI (tstI (opI (some_ok [decide (j = 0), decide (j = 1), decide (j = 2), decide (j = 3), decide (j = 4)] (Nat.le_refl 5) upd_same fun H' sm => ?_))))))
  refine pick_no (Q := fun b H2 => ∃ k, b = V.bl k ∧ if k = true then tRet (tC (.str "many")) { D with nx := tRet (tWhich K) D } [some (.ref x), some (.ref p), none] H2 else tNext { D with nx := tRet (tWhich K) D } [some (.ref x), some (.ref p), none] H2) hj ⟨false, rfl, ?_⟩
  exact retI (which_ok hj rfl (sm p _ upd_same) fun H2 sm2 => q H2 fun b o e => sm2 b o (sm b o (same_new hp b o e)))
end
end AB
/-! try: body, except an own error as e: return the word of e. -/
namespace AB
open PySem PySem.Spec PyProof.Rows L2
def aTold (C : Nat → Addr) (i : Nat) (as : AS) : AS := fun A ss => as { A with ex := fun c s => i < s.length ∧ ∃ j, j < 5 ∧ c = .ref (C j) ∧ A.rt (.dat (.str (wordOf j))) s } ss
theorem rep_more {K : PySem.W.Frag} {B0 H0 H H' : Hp} {T : List (V × TV)} {ss : List SV} {σ : L2.St} {B : Hp} (R : RepB K B0 H0 B H T ss σ) (sm : Same H H') : RepB K B0 H0 B H' T ss σ :=
  R.grow ⟨Same.refl B, fun a o e => sm a o (R.g.i a o e), sm, fun _ _ e => e⟩
section
variable {X : Cx} {W : WX} {x n f' : Str} {i k : Nat} {f Bits : Addr} {fd : FuncData} {C : Nat → Addr} {body : List Stmt} {np pos pos' q q2 pos2 pos3 : Pos} {as : AS}
theorem qs_told (i : Nat) (hs : X.stack = X.env :: X.outer) (hf : X.env.frame = some X.env.locals) (hN : X.N.Nodup) (tk : L2N.Takes X W) (F : FnW X.prog X.w X.K X.mg X.base k f fd C) (hr : Room k X.A) (hm : X.mg f' = some (.ref f)) (hk : PySem.W.keepIn X.K (.ref f) = true) (hbd : Binds X.K fd ["e"] [])
    (hx : X.mg x = some (.ref Bits)) (hex : ∀ j, j < 5 → PySem.W.exmOne X.K (.ref (C j)) (.ref Bits) = some true)
    (hb : ∀ (W' : WX) (pn : List (Addr × Obj)) (xe : Value → Shared → Prop), L2N.Takes (X.tr pn xe) W' → PassesOwn (model X.prog X.w) X.A X.env xe → QSs (X.tr pn xe) W' body as)
    (hi : X.N[i]? = some n := by rfl) (hln : X.env.kindOf n = some .local := by rfl) (hg : Gl X x := by rfl) (hgf : Gl X f' := by rfl) (hd : (n == ("__debug__" : Str)) = false := by decide) (hcd : (n == ("__classdict__" : Str)) = false := by decide)
    (hdb : (x == ("__debug__" : Str)) = false := by decide) (hdf : (f' == ("__debug__" : Str)) = false := by decide) (he : starEach [.Name n q2] X.env = (false, eval (.Name n q2) X.env) :: starEach [] X.env := by rfl) (hpl : (backTo pos2 (starEach [] X.env)).any (·.1) = false := by rfl) :
    QS X W (.Try body [.ExceptHandler (some (.Name x np)) (some n) [.Return (some (.Call (.Name f' q) [.Name n q2] [] pos2)) pos3] pos'] [] [] pos) (aTold C i as) := by
  let ts : Addr → Value → Option Addr → TS := fun a cls d D σ H => d = none ∧ tRet (tWord C i a cls) D σ H
  have hv : Vis X.env.scope n := .inl hln
  have hsu : ∀ (a : Addr) (oe : Obj) (cls : Value) (d : Option Addr) (pn : List (Addr × Obj)), L2N.Zn cls d oe → (∃ vs, oe.data = .fields vs) → PSs (X.suite a ((a, oe) :: pn)) [.Return (some (.Call (.Name f' q) [.Name n q2] [] pos2)) pos3] (ts a cls d) := by
    intro a oe cls d pn hz hfs
    refine ⟨fun pins s σ H D I h => ?_⟩
    obtain ⟨hd0, h⟩ := h
    subst hd0
    exact (pss_one (ps_ret (pe_word F hr hz hfs hm hk hbd hi hv hd hcd hgf hdf he hpl))).run pins s σ H D I h
  let tb : WX → TS := fun W' D σ H => ∀ (pn : List (Addr × Obj)) (xe : Value → Shared → Prop) (t1 : L2N.Takes (X.tr pn xe) W') (t2 : PassesOwn (model X.prog X.w) X.A X.env xe), Classical.choose (hb W' pn xe t1 t2).ex D σ H
  have hb' : ∀ (W' : WX) (pn : List (Addr × Obj)) (xe : Value → Shared → Prop), L2N.Takes (X.tr pn xe) W' → PassesOwn (model X.prog X.w) X.A X.env xe → PSs (X.tr pn xe) body (tb W') := fun W' pn xe t1 t2 =>
    ⟨fun pins s σ H D I h => (Classical.choose_spec (hb W' pn xe t1 t2).ex).1.run pins s σ H D I (h pn xe t1 t2)⟩
  refine ⟨_, L2N.ps_try_as (Wout := W) (ts := ts) hs hf hN hi hln (show Names X x (.ref Bits) from ⟨hg, hdb, .inl hx⟩) tk hb' hsu, ?_⟩
  intro B0 H0 ss σ H D A R h ab pn xe t1 t2
  refine (Classical.choose_spec (hb (wAs X.K (.ref Bits) i ts W D) pn xe t1 t2).ex).2 B0 H0 ss σ H D _ R h ⟨ab.nx, ab.rt, ab.bk, ab.ct, ?_⟩
  rintro c s2 σ2 H2 ⟨hl, j, hj, rfl, hq⟩ R2
  refine ⟨true, hex j hj, fun _ a na => ?_, fun z => Bool.noConfusion z⟩
  obtain ⟨B, R2⟩ := R2
  refine ⟨rfl, ?_, j, hj, rfl, fun H' sm => ?_⟩
  · rw [List.getElem?_set_self (by rw [← R2.len]; exact hl)]
  · exact ab.rt _ s2 σ2 H' _ hq ⟨B, rep_more R2 sm, .str _⟩
end
end AB
/-! list(reversed(xs)), xs a list. -/
namespace AB
open PySem PySem.Spec PyProof.Rows L2
section
variable {prog : Program} {w : World} {A : Around} {E : Value → Shared → Prop} {s : Shared}
/-- what one place of the new list holds -/
abbrev RevAt (items : Array Value) (i : Nat) (v : Value) : Prop := items[items.size - 1 - i]? = some v
theorem init_rev {R : Result → Shared → Prop} {it l S : Addr} {items : Array Value} (hh : A.handled = none) (hS : s.heap.get? S = some { cls := .type "list", data := .seq #[] }) (hit : s.heap.IsRevIter it l ((items.size : Int) - 1)) (hl : s.heap.IsList l items) (d1 : l ≠ it) (d2 : S ≠ it) (d3 : S ≠ l)
    (hn : items.size ≤ sizeLine)
    (hR : ∀ (h' : Heap) (tk : Nat) (acc : Array Value) (c : Nat), (∀ b o, b ≠ S → b ≠ it → s.heap.get? b = some o → h'.get? b = some o) → h'.get? S = some { cls := .type "list", dict := none, data := .seq acc c, slots := #[] } → ItemsOf (RevAt items) acc items.size →
      R (.ok (.ret .none)) { s with heap := h', toks := tk }) :
    wpAny (model prog w) A.in1 (Builtin.«list.__init__» ⟨[.ref S, .ref it], []⟩) (fun fin s' => match fin with | .done f => R (.ok f) s' | .again c' => c'.quiet = true ∧ codeAny (model prog w) A c' R s') (fun e s' => R (.error e) s') s := by
  show wpAny _ _ (Builtin.List.listItems (.ref S) >>= fun old => Builtin.List.listUpdate (.ref S) (fun _ => #[]) >>= fun _ => letGo old.toList.reverse >>= fun _ => Builtin.List.listExtendWith (.ref S) (.ref it) .none) _ _ s
  refine wpAny_bind ?_
  unfold Builtin.List.listItems
  refine wpAny_bind (wpAny_seqItems hS rfl (wpAny_pure ?_))
  show wpAny _ _ (updateSeq S (fun _ => #[]) >>= fun _ => letGo (#[] : Array Value).toList.reverse >>= fun _ => Builtin.List.listExtendWith (.ref S) (.ref it) .none) _ _ s
  refine wpAny_bind (wpAny_updateSeq hS rfl ?_)
  generalize eh : s.heap.update S (Obj.mapSeq (fun _ => (#[] : Array Value))) = h1
  have hS1 : h1.get? S = some { cls := .type "list", data := .seq #[], slots := #[] } := by rw [← eh]; exact Heap.get?_update_self (Obj.mapSeq (fun _ => (#[] : Array Value))) hS rfl
  have oth : ∀ b o, b ≠ S → s.heap.get? b = some o → h1.get? b = some o := fun b o hb e => by rw [← eh, Heap.get?_update_other _ _ (Ne.symm hb)]; exact e
  refine wpAny_bind (wpAny_letGo ?_)
  have hit1 : h1.IsRevIter it l ((items.size : Int) - 1) := hit.at fun o e => oth _ o (Ne.symm d2) e
  have hl1 : h1.IsList l items := hl.at fun o e => oth _ o (Ne.symm d3) e
  have W := (Walks.listRev (prog := prog) (w := w) (A := A.in1) hh it l d1 items).toS
  have hT : ({ s with heap := h1 } : Shared).TypeIs (.ref it) "list_reverseiterator" := Heap.IsRevIter.typeIs (s := { s with heap := h1 }) hit1
  have same : Builtin.List.listSameRef (.ref S) (.ref it) = false := by simp [Builtin.List.listSameRef, d2]
  unfold Builtin.List.listExtendWith
  refine wpAny_bind (wpAny_typeOf hT ?_)
  rw [if_neg (by rw [same]; decide)]
  refine wpAny_bind (wpAny_pyIter_revIter (s := { s with heap := h1 }) hit1 ?_)
  refine wpAny_bind (wpAny_holding ?_)
  unfold Builtin.List.listLengthHint
  refine wpAny_bind (wpAny_specialOf hT RT.nolen_lri ?_)
  show wpAny _ A.in1 (specialOf (Value.ref it) (Str.ofString "__length_hint__") >>= _) _ _ _
  refine wpAny_bind (wpAny_specialOf hT RT.hint_lri ?_)
  generalize hid : ("list_reverseiterator.__length_hint__" : String) = id0
  wp_delta
  rw [show splitId id0 = some ("list_reverseiterator", "__length_hint__") from by subst hid; decide +kernel]
  subst hid
  refine wpAny_bind (wpAny_isInstance (b := true) hT (by rw [isSubtype_type]; kernel_rfl) ?_)
  refine wpAny_pure ?_
  rw [if_neg (by decide)]
  have e0 : ((items.size : Nat) : Int) - 1 - ((0 : Nat) : Int) = (items.size : Int) - 1 := by omega
  have hSf : S ∉ [it, l] := by simp only [List.mem_cons, List.not_mem_nil, or_false, not_or]; exact ⟨d2, d3⟩
  refine wpAny_pure ⟨plainId_quiet F.plain_extend_loop _, codeAny_extend_loopS W hn _ hSf _ items.size 0 _ _ _ rfl (Nat.zero_le _) ⟨Nat.zero_le _, by rw [e0]; exact hit1, hl1⟩ hS1 (ItemsOf.nil _) fun s' acc' c' hm hS' hacc => ?_⟩
  rw [Moved.eq_with hm]
  refine hR s'.heap s'.toks acc' c' (fun b o h1 h2 e => hm.heap b o (fun z => ?_) (oth b o h1 e)) hS' hacc
  rcases List.mem_cons.mp z with z | z
  · exact h1 z
  · exact h2 (List.mem_singleton.mp z)
theorem call_list_rev {it l : Addr} {items : Array Value} {Q : Value → Shared → Prop} (hh : A.handled = none) (hit : s.heap.IsRevIter it l ((items.size : Int) - 1)) (hl : s.heap.IsList l items) (d1 : l ≠ it) (hn : items.size ≤ sizeLine)
    (hQ : ∀ (h' : Heap) (tk : Nat) (acc : Array Value) (c : Nat), (∀ b o, b ≠ it → s.heap.get? b = some o → h'.get? b = some o) → h'.get? s.heap.objs.size = some { cls := .type "list", dict := none, data := .seq acc c, slots := #[] } → ItemsOf (RevAt items) acc items.size → Q (.ref s.heap.objs.size) { s with heap := h', toks := tk }) :
    wpAny (model prog w) A (call (.type "list") [.ref it]) Q E s := by
  refine callType_codes (Q₁ := fun obj s₁ => obj = .ref s.heap.objs.size ∧ s₁ = { s with heap := s.heap.push { cls := .type "list", data := .seq #[] } }) PySem.F.called_list (PySem.F.typeCall_list_1 _) PySem.F.entry_list_init (code_list_new _ ⟨rfl, rfl⟩) fun obj s₁ z => ?_
  obtain ⟨rfl, rfl⟩ := z
  have hS : (s.heap.push { cls := .type "list", data := .seq #[] }).get? s.heap.objs.size = some { cls := .type "list", data := .seq #[] } := Heap.get?_push_size _ rfl
  obtain ⟨oi, hoi, _⟩ := id hit
  obtain ⟨ol, hol, _⟩ := id hl
  refine ⟨⟨_, hS, rfl⟩, PySem.F.args_list_init_2 _ _, init_rev (A := A.in1) (s := { s with heap := s.heap.push { cls := .type "list", data := .seq #[] } }) hh hS (hit.at fun o e => Heap.get?_push_of_some _ e) (hl.push _) d1 (Nat.ne_of_gt (Heap.lt_size hoi)) (Nat.ne_of_gt (Heap.lt_size hol)) hn fun h' tk acc c hk hS' hacc => ?_⟩
  exact ⟨rfl, hQ h' tk acc c (fun b o hb e => hk b o (Nat.ne_of_lt (Heap.lt_size e)) hb (Heap.get?_push_of_some _ e)) hS' hacc⟩
end
/-- list(reversed(e)), e a list -/
def tLstRev (K : PySem.W.Frag) (te : TE) : TE := fun σ H Q => te σ H fun v H1 => ∃ (a : Addr) (xs : List V), v = .ref a ∧ SqL K H1 a xs ∧ ∀ q, H1 q = none → Q (.ref q) (upd H1 q (.lst xs.reverse))
theorem pe_lstRev {X : Cx} {e : Expr} {te : TE} {p p2 pos pos2 : Pos} (hg : Gl X "list") (hm : X.mg "list" = none) (hg2 : Gl X "reversed") (hm2 : X.mg "reversed" = none) (he : PE X e te) (hc : X.calm = true := by rfl)
    (hs : starEach [e] X.env = (false, eval e X.env) :: starEach [] X.env := by rfl)
    (hs2 : starEach [.Call (.Name "reversed" p2) [e] [] pos2] X.env = (false, eval (.Call (.Name "reversed" p2) [e] [] pos2) X.env) :: starEach [] X.env := by rfl) :
    PE X (.Call (.Name "list" p) [.Call (.Name "reversed" p2) [e] [] pos2] [] pos) (tLstRev X.K te) := by
  refine ⟨fun pins s σ H Q I h => ?_⟩
  refine Call_ (ld_blt I hg hm boot_list (PyProof.Rows.callWith_type1 (args_cons (Call_ (ld_blt I hg2 hm2 PyProof.Rows.boot_reversed (PyProof.Rows.callWith_type1 (args_cons (thn (he.run pins s σ H _ I h) fun u s1 ⟨v, H1, I1, r1, q1⟩ => args_nil ?_) hs) hs rfl))) hs2) hs2 rfl))
  obtain ⟨a, xs, ev, hq, q⟩ := q1
  subst ev
  obtain rfl : u = Value.ref a := r1
  obtain ⟨its, rv, pl, hz⟩ := I1.list hq
  refine call_reversed_list pl.isList (args_nil ?_)
  generalize eit : s1.heap.objs.size = it
  generalize eh : s1.heap.push (revObj a ((its.toArray.size : Int) - 1)) = h1
  have k0 : ∀ b o, s1.heap.get? b = some o → h1.get? b = some o := fun b o e => by rw [← eh]; exact Heap.get?_push_of_some _ e
  have I2 : Inv X pins σ H1 { s1 with heap := h1 } := I1.kept (t' := s1.toks) k0
  have fit : FpOk X pins H1 it := by rw [← eit]; exact I1.fpOk (H' := H1) (Nat.le_refl _) (I1.hok.fresh (Nat.le_refl _))
  obtain ⟨ol, hol, _⟩ := id pl.isList
  have d1 : a ≠ it := by rw [← eit]; exact Nat.ne_of_lt (Heap.lt_size hol)
  have hit : h1.IsRevIter it a ((its.toArray.size : Int) - 1) := by rw [← eh, ← eit]; exact ⟨_, Heap.get?_push_size _ rfl, rfl, rfl⟩
  refine call_list_rev (s := { s1 with heap := h1 }) (I1.ok.hd hc) hit (pl.isList.at fun o e => k0 _ o e) d1 (by rw [List.size_toArray, ← rv.length]; exact hz) fun h' tk acc c hk hS hacc => ?_
  have hlt : it < h1.objs.size := Heap.lt_size hit.choose_spec.1
  have hr := RT.vals_rev rv hacc
  have I3 : Inv X pins σ (upd H1 h1.objs.size (.lst xs.reverse)) { s1 with heap := h', toks := tk } :=
    I2.turnedNew (t' := tk) (ch := [it]) (fun b o hb e => hk b o (fun z => hb (List.mem_singleton.mpr z)) e) (fun b hb => by cases List.mem_singleton.mp hb; exact fit) (Nat.le_refl _)
      (show ObjOk X.prog X.w _ _ _ (.lst xs.reverse) from ⟨by rw [List.length_reverse]; exact hz, acc.toList, c, hr, by rw [Array.toArray_toList]; exact hS⟩)
  exact ⟨.ref h1.objs.size, _, I3, rfl, q _ (I2.hok.fresh (Nat.le_refl _))⟩
end AB
/-! More that a for goes over: any list or tuple, enumerate of it, range with a step. -/
namespace AB
open PySem PySem.Spec PyProof.Rows L2

/-! ### a list or a tuple, whichever -/
def iSq (K : PySem.W.Frag) (tl : TE) : TI := fun σ H R => tl σ H fun x H1 => ∃ a, x = .ref a ∧ (((∃ xs, SqL K H1 a xs) ∧ R (Itl K a) H1) ∨ ((∃ xs, SqT K H1 a xs) ∧ R (Itt K a) H1))
section
variable {X : Cx} {tg e : Expr} {tl : TE}
theorem pi_sq (hl : PE X e tl) : PI X tg e (iSq X.K tl) := by
  refine ⟨fun pins s σ H R I h => ?_⟩
  refine thn (hl.run pins s σ H _ I h) fun v s1 ⟨x, H1, I1, r1, a, ex, q⟩ => ?_
  subst ex
  obtain rfl : v = Value.ref a := r1
  rcases q with ⟨⟨xs, hq⟩, q⟩ | ⟨⟨xs, hq⟩, q⟩
  · obtain ⟨its, _, pl, _⟩ := I1.list hq
    exact wpAny_pyIter_list pl.isList (pi_one (tk := s1.toks) I1 _ (turn_list a _) ⟨_, Heap.get?_push_size _ rfl, rfl, rfl⟩ q)
  · obtain ⟨its, _, pl, _⟩ := I1.tuple hq
    exact wpAny_pyIter_tuple (show s1.heap.IsTuple a its.toArray from pl) (pi_one (tk := s1.toks) I1 _ (turn_tuple a _) ⟨_, Heap.get?_push_size _ rfl, rfl, rfl⟩ q)
end
def itemsD : PyData → Option (List PyData)
  | .list xs => some xs
  | .tuple xs => some xs
  | .dict [(.none, .list xs)] => some xs
  | _ => none
def aiU (ae : AE) : AI := fun ss P X => ae ss (fun t => match t with
  | .dat d => on1' (itemsD d) P
  | .ali _ => False) X
where on1' (x : Option (List PyData)) (P : List PyData → Prop) : Prop := match x with
  | some xs => P xs
  | none => False
/-- what data gives to an iteration -/
theorem items_it {K : PySem.W.Frag} {B H : Hp} {v : V} {d : PyData} {xs : List PyData} (g : Same B H) (hv : Dq K B v d) (e : itemsD d = some xs) :
    ∃ a, v = .ref a ∧ (((∃ ys, SqL K H a ys) ∧ ItOk K (Itl K a) B xs) ∨ ((∃ ys, SqT K H a ys) ∧ ItOk K (Itt K a) B xs)) := by
  cases hv with
  | lst hs ha =>
    cases e
    exact ⟨_, rfl, .inl ⟨⟨_, sql_of (g _ _ hs)⟩, itok_list hs ha⟩⟩
  | tup hs ha =>
    cases e
    exact ⟨_, rfl, .inr ⟨⟨_, same_t g hs⟩, itok_tup hs ha⟩⟩
  | scr hs =>
    cases e
    exact ⟨_, rfl, .inl ⟨⟨_, (hs.mono g).sq⟩, itok_scr hs⟩⟩
  | non => cases e
  | bl => cases e
  | int => cases e
  | str => cases e
section
variable {K : PySem.W.Frag} {W : WX}
theorem si_sq {te : TE} {ae : AE} (h : Snd K W te ae) : SndI K W (iSq K te) (aiU ae) := by
  intro B0 H0 T ss σ H P Xe R Rp hp q x
  refine h B0 H0 T ss σ H _ Xe _ Rp hp (fun v r H' hr RR => ?_) x
  obtain ⟨B, RR⟩ := RR
  cases r with
  | ali i => exact (show False from hr).elim
  | dat d =>
    have hv : Dq K B v d := RR.t (v, .dat d) List.mem_cons_self
    have hr' : aiU.on1' (itemsD d) P := hr
    cases ed : itemsD d with
    | none =>
      rw [ed] at hr'
      exact hr'.elim
    | some xs =>
      rw [ed] at hr'
      obtain ⟨a, rfl, hh⟩ := items_it RR.g.i hv ed
      refine ⟨a, rfl, ?_⟩
      have R1 := RR.sub (T' := T) fun _ h => List.mem_cons_of_mem _ h
      rcases hh with ⟨h1, ok⟩ | ⟨h1, ok⟩
      · exact .inl ⟨h1, q _ xs B H' hr' R1 ok⟩
      · exact .inr ⟨h1, q _ xs B H' hr' R1 ok⟩
end
theorem qi_sq {X : Cx} {W : WX} {tg e : Expr} {ae : AE} (h : QE X W e ae) : QI X W tg e (aiU ae) := let ⟨te, h1, h2⟩ := h; ⟨_, pi_sq h1, si_sq h2⟩

/-! ### enumerate -/
/-- the tuple at a, each item in a new pair -/
def IteT (K : PySem.W.Frag) (a : Addr) (n : Nat) : It :=
  ⟨fun i H => ∃ (xs : List V) (x : V), SqT K H a xs ∧ xs.length = n ∧ xs[i]? = some x, fun i H v H' => ∃ T x, v = .ref T ∧ H T = none ∧ H' = upd H T (.tup [.int (i : Nat), x]) ∧ ∀ xs, SqT K H a xs → xs[i]? = some x, fun i H => ∃ xs : List V, SqT K H a xs ∧ xs.length = n ∧ n ≤ i⟩
theorem new_enum {v : Value} {o : Obj} {G : Heap → Prop} (B : Begins v o G) :
    Meets (Builtin.«enumerate.__new__» ⟨[.type "enumerate", v], []⟩) (fun _ R s => G s.heap ∧
      R (.ok (.ret (.ref (s.heap.push o).objs.size))) { s with heap := (s.heap.push o).push { cls := .type "enumerate", data := .fields #[.none, .bool false, .ref s.heap.objs.size, rawInt 0, .none, .none] } }) :=
  .of_wp fun prog w A R s h => by
    obtain ⟨hp, g, d, tk, os⟩ := s
    obtain ⟨h1, h⟩ := h
    have hsub := sub_enumerate
    have itr : ∀ {A' : Around} {E : Value → Shared → Prop} {Q : Value → Shared → Prop}, Q (.ref hp.objs.size) ⟨hp.push o, g, d, tk, os⟩ → wpAny (model prog w) A' (pyIter v) Q E ⟨hp, g, d, tk, os⟩ :=
      fun q => B.iter prog w _ _ ⟨hp, g, d, tk, os⟩ _ h1 q
    wp_walk using itr
    refine wpAny_stack_any fun st => wpAny_pure ?_
    split
    · rename_i c _ _ _ _ _
      cases (c == Value.type "enumerate")
      · wp_walk using itr
        exact ⟨_, rfl, h⟩
      · wp_walk using itr
        exact ⟨_, rfl, h⟩
    · wp_walk using itr
      exact ⟨_, rfl, h⟩
theorem call_enum_of {prog : Program} {w : World} {A : Around} {E : Value → Shared → Prop} {s : Shared} {v : Value} {o : Obj} {G : Heap → Prop} {Q : Value → Shared → Prop} (B : Begins v o G) (h1 : G s.heap)
    (h : ∀ h', IsEnum h' (s.heap.objs.size + 1) s.heap.objs.size 0 .none → h'.get? s.heap.objs.size = some o → (∀ b u, s.heap.get? b = some u → h'.get? b = some u) → Q (.ref (s.heap.objs.size + 1)) { s with heap := h' }) :
    wpAny (model prog w) A (call (.type "enumerate") [v]) Q E s := by
  refine callType_new F.called_enumerate (by decide) (F.typeCall_enumerate_1 _) (F.newCall_enumerate_1 _) (fun obj => F.args_object_init_2 obj _) F.entry_enumerate_new (new_enum B) ⟨h1, ?_⟩
  have hz : (s.heap.push o).objs.size = s.heap.objs.size + 1 := Heap.size_push ..
  show _ ∧ _
  rw [hz]
  have he : IsEnum ((s.heap.push o).push { cls := .type "enumerate", data := .fields #[.none, .bool false, .ref s.heap.objs.size, rawInt 0, .none, .none] }) (s.heap.objs.size + 1) s.heap.objs.size 0 .none := by
    have z := Heap.get?_push_size (s.heap.push o) (o := { cls := .type "enumerate", data := .fields #[.none, .bool false, .ref s.heap.objs.size, rawInt 0, .none, .none] }) rfl
    rw [hz] at z
    exact z
  exact ⟨⟨_, he, rfl⟩, h _ he (Heap.get?_push_of_some _ (Heap.get?_push_size _ B.free)) fun b u e => Heap.get?_push_of_some _ (Heap.get?_push_of_some _ e)⟩
theorem turn_enumT {P : Program} {w : World} {K : PySem.W.Frag} {elts : List Expr} {kk : Nat} {tpos : Pos} (a e it : Addr) (n : Nat) :
    Turn P w K (.Tuple elts kk tpos) (IteT K a n) [e, it] e (fun i h => (∃ old, IsEnum h e it ((i : Nat) : Int) old) ∧ h.IsTupleIter it a i ∧ e ≠ it ∧ a ≠ it ∧ a ≠ e ∧ i ≤ n) where
  mem := List.mem_cons_self
  obj := fun i h st b hb => by
    obtain ⟨⟨old, he⟩, ⟨o, ho, hc, hd⟩, _⟩ := st
    rcases List.mem_cons.mp hb with z | z
    · rw [z]
      exact ⟨_, he, fun v q => nomatch q⟩
    · rw [List.mem_singleton.mp z]
      exact ⟨o, ho, fun v q => by rw [hd] at q; cases q⟩
  keep := fun i h h' st k => let ⟨⟨old, he⟩, hi, ne⟩ := st; ⟨⟨old, k e (by simp) _ he⟩, hi.at fun o q => k it (by simp) o q, ne⟩
  item := by
    intro X hP hw hK hc i pins s σ H E I hf st hg
    subst hP hw hK
    obtain ⟨⟨old, he⟩, hit, hne, hat, hae, hin⟩ := st
    obtain ⟨xs, x, hq, hxn, hx⟩ := hg
    obtain ⟨its, rv, pl, hz⟩ := I.tuple hq
    obtain ⟨u, hu, ru⟩ := rv.get hx
    have hel : e < s.heap.objs.size := Heap.lt_size he
    have hil : it < s.heap.objs.size := by obtain ⟨_, q, _⟩ := hit; exact Heap.lt_size q
    have hef : e ∉ [it, a] := by
      simp only [List.mem_cons, List.not_mem_nil, or_false, not_or]
      exact ⟨hne, fun z => hae z.symm⟩
    have hi : i < its.toArray.size := by
      obtain ⟨z, _⟩ := List.getElem?_eq_some_iff.mp hu
      simpa using z
    refine wpAny_pyNext_enum_itemD (Draws.tuple (show X.A.in1.handled = none from I.ok.hd hc) it a hat its.toArray) he ⟨hit, pl⟩ hi hne hef fun y h' tk hy ho hst hT hsz hk => ?_
    have ey : y = u := by
      have z : its.toArray[i]? = some y := hy
      rw [show its.toArray[i]? = some u by simpa using hu] at z
      exact (Option.some.inj z).symm
    subst ey
    refine ⟨_, rfl, wpAny_letOwnedTupleGo_enum (s := { s with heap := h', toks := tk + 1 }) ho fun h'' he' sb => ?_⟩
    have hT2 : h''.get? s.heap.objs.size = some { cls := .type "tuple", data := .seq #[.int i tk, y] } := (sb.2 _ (Nat.ne_of_gt hel)).trans hT
    have new : ObjOk X.prog X.w (upd H s.heap.objs.size (.tup [.int (i : Nat), x])) h'' s.heap.objs.size (.tup [.int (i : Nat), x]) :=
      ⟨by show 2 ≤ sizeLine; decide, [.int i tk, y], .cons ⟨_, rfl⟩ (.cons ru .nil), ⟨_, hT2, rfl, _, rfl⟩⟩
    have I1 : Inv X pins σ (upd H s.heap.objs.size (.tup [.int (i : Nat), x])) { s with heap := h'', toks := tk + 1 } :=
      I.turnedNew (ch := [e, it]) (fun b ob hb q => (sb.2 b (fun z => hb (by simp [z]))).trans (hk b ob (fun z => hb (by simp [z])) (fun z => hb (by simp [z])) q)) hf (Nat.le_refl _) new
    refine ⟨.ref s.heap.objs.size, _, I1, rfl, ⟨_, x, rfl, I.hok.fresh (Nat.le_refl _), rfl, fun ys hy => by rw [I.tuple_inj hy hq]; exact hx⟩, ⟨⟨y, ?_⟩, hst.1.at fun o q => (sb.2 it (Ne.symm hne)).trans q, hne, hat, hae, by have z := rv.length; simp at hi; omega⟩, fun b hb => ?_⟩
    · rw [show ((i + 1 : Nat) : Int) = (i : Int) + 1 by omega]
      exact he'
    · have hb' : b < s.heap.objs.size := by
        rcases List.mem_cons.mp hb with z | z
        · rw [z]; exact hel
        · rw [List.mem_singleton.mp z]; exact hil
      rw [upd_ne (Nat.ne_of_lt hb')]
      exact (hf b hb).1
  done := by
    intro X hP hw hK hc i pins s σ H E I hf st hg
    subst hP hw hK
    obtain ⟨⟨old, he⟩, hit, hne, hat, hae, hin⟩ := st
    obtain ⟨xs, hq, hxn, hx⟩ := hg
    obtain ⟨its, rv, pl, hz⟩ := I.tuple hq
    obtain ⟨f0, f1, f2, f3, f4, f5⟩ := hf it (by simp)
    have hl := rv.length
    have ei : i = its.toArray.size := by
      simp only [List.size_toArray]
      omega
    subst ei
    exact wpAny_pyNext_enum_endD (Draws.tuple (show X.A.in1.handled = none from I.ok.hd hc) it a hat its.toArray) he ⟨hit, pl⟩ fun h' eb => ⟨rfl, I.turned (t' := s.toks) (fun b o hb q => eb b o hb q) f0 f1 f3 f4 f5⟩
  self := fun A i s Q E st h => let ⟨⟨_, he⟩, _⟩ := st; wpAny_pyIter_enum he h
def iEnumU (K : PySem.W.Frag) (ta : TA) : TI := fun σ H R => ta σ H fun vs H1 => ∃ a xs, vs = [.ref a] ∧ ((SqL K H1 a xs ∧ R (Ite K a) H1) ∨ (SqT K H1 a xs ∧ R (IteT K a xs.length) H1))
theorem pi_enumU {X : Cx} {e : Expr} {ta : TA} {p pos tpos : Pos} {elts : List Expr} {kk : Nat} (hg : Gl X "enumerate") (hm : X.mg "enumerate" = none) (ha : PA X [e] ta) (hs : starEach [e] X.env = [(false, eval e X.env)] := by rfl) :
    PI X (.Tuple elts kk tpos) (.Call (.Name "enumerate" p) [e] [] pos) (iEnumU X.K ta) := by
  refine ⟨fun pins s σ H R I h => ?_⟩
  refine Call_ (ld_blt I hg hm boot_enumerate (PyProof.Rows.callWith_type1 (thn (ha.run pos pins s σ H _ I h) fun us s1 ⟨vs, H1, I1, r1, a, xs, ex, q1⟩ => ?_) hs rfl))
  subst ex
  obtain ⟨u, rfl, ru⟩ := Vals.one r1
  obtain rfl : u = Value.ref a := ru
  have fps : ∀ b ∈ [s1.heap.objs.size + 1, s1.heap.objs.size], FpOk X pins H1 b := fun b hb => by
    have hle : s1.heap.objs.size ≤ b := by
      rcases List.mem_cons.mp hb with z | z
      · rw [z]; exact Nat.le_add_right _ _
      · rw [List.mem_singleton.mp z]; exact Nat.le_refl _
    exact I1.fpOk hle (I1.hok.fresh hle)
  rcases q1 with ⟨hq, q⟩ | ⟨hq, q⟩
  · obtain ⟨its, rv, pl, hz⟩ := I1.list hq
    refine call_enumerate_list pl.isList fun h' he hit hsz hk => wpAny_pyIter_enum he ?_
    exact ⟨s1.heap.objs.size + 1, [s1.heap.objs.size + 1, s1.heap.objs.size], _, _, H1, rfl, I1.kept (t' := s1.toks) hk, turn_enum a (s1.heap.objs.size + 1) s1.heap.objs.size, ⟨⟨.none, he⟩, hit, Nat.succ_ne_self _⟩, fps, q⟩
  · obtain ⟨its, rv, pl, hz⟩ := I1.tuple hq
    obtain ⟨ot, hot, _⟩ := id pl
    have hl : a < s1.heap.objs.size := Heap.lt_size hot
    refine call_enum_of (begins_tuple a its.toArray) pl fun h' he hit hk => wpAny_pyIter_enum he ?_
    exact ⟨s1.heap.objs.size + 1, [s1.heap.objs.size + 1, s1.heap.objs.size], _, _, H1, rfl, I1.kept (t' := s1.toks) hk, turn_enumT a (s1.heap.objs.size + 1) s1.heap.objs.size xs.length,
      ⟨⟨.none, he⟩, ⟨_, hit, rfl, rfl⟩, Nat.succ_ne_self _, Nat.ne_of_lt hl, Nat.ne_of_lt (Nat.lt_succ_of_lt hl), Nat.zero_le _⟩, fps, q⟩
def enumD (xs : List PyData) : List PyData := (List.range xs.length).map fun k : Nat => .tuple [.int k, xs.getD k .none]
theorem enumD_len (xs : List PyData) : (enumD xs).length = xs.length := by
  unfold enumD
  rw [List.length_map, List.length_range]
theorem enumD_get {xs : List PyData} {i : Nat} {d : PyData} (h : (enumD xs)[i]? = some d) : ∃ x, xs[i]? = some x ∧ d = .tuple [.int i, x] := by
  unfold enumD at h
  rw [List.getElem?_map] at h
  by_cases hi : i < xs.length
  · rw [List.getElem?_eq_getElem (by rw [List.length_range]; exact hi), List.getElem_range] at h
    refine ⟨xs[i], List.getElem?_eq_getElem hi, ?_⟩
    have z := (Option.some.inj h).symm
    rw [z]
    show PyData.tuple [.int (i : Nat), xs.getD i .none] = _
    rw [List.getD_eq_getElem?_getD, List.getElem?_eq_getElem hi]
    rfl
  · rw [List.getElem?_eq_none (by rw [List.length_range]; omega)] at h
    cases h
/-- enumerate(x), x a list or a tuple that stands -/
def aiE (aa : AA) : AI := fun ss P X => aa ss (fun rs => match rs with
  | [.dat d] => aiU.on1' (itemsD d) fun xs => P (enumD xs)
  | _ => False) X
section
variable {K : PySem.W.Frag} {W : WX}
theorem itok_enum {a : Addr} {vs : List V} {xs : List PyData} {B : Hp} (ha : ∀ H, Same B H → SqL K H a vs) (da : DqAll K B vs xs) : ItOk K (Ite K a) B (enumD xs) := by
  intro i Bc H s1 s2
  have hl : SqL K H a vs := ha H fun b o e => s2 _ _ (s1 _ _ e)
  refine ⟨fun d hd => ?_, fun hi => ⟨vs, hl, by rw [dpAll_len da, ← enumD_len]; exact hi⟩⟩
  obtain ⟨x, hx, rfl⟩ := enumD_get hd
  obtain ⟨v, hv, dv⟩ := dpAll_get da hx
  refine ⟨⟨vs, v, hl, hv⟩, fun y H' hy => ?_⟩
  obtain ⟨T, x2, rfl, nT, rfl, fy⟩ := hy
  have e := fy _ hl
  rw [hv] at e
  cases e
  exact ⟨upd Bc T (.tup [.int (i : Nat), v]), Grow.new s2 nT, .tup (sqt_of upd_same) (.cons (.int _) (.cons (dp_mono (fun b o e => same_new (Same.free s2 nT) b o (s1 b o e)) _ _ dv) .nil))⟩
theorem itok_enumT {a : Addr} {vs : List V} {xs : List PyData} {B : Hp} (ha : SqT K B a vs) (da : DqAll K B vs xs) : ItOk K (IteT K a vs.length) B (enumD xs) := by
  intro i Bc H s1 s2
  have hl : SqT K H a vs := same_t s2 (same_t s1 ha)
  refine ⟨fun d hd => ?_, fun hi => ⟨vs, hl, rfl, by rw [dpAll_len da, ← enumD_len]; exact hi⟩⟩
  obtain ⟨x, hx, rfl⟩ := enumD_get hd
  obtain ⟨v, hv, dv⟩ := dpAll_get da hx
  refine ⟨⟨vs, v, hl, rfl, hv⟩, fun y H' hy => ?_⟩
  obtain ⟨T, x2, rfl, nT, rfl, fy⟩ := hy
  have e := fy _ hl
  rw [hv] at e
  cases e
  exact ⟨upd Bc T (.tup [.int (i : Nat), v]), Grow.new s2 nT, .tup (sqt_of upd_same) (.cons (.int _) (.cons (dp_mono (fun b o e => same_new (Same.free s2 nT) b o (s1 b o e)) _ _ dv) .nil))⟩
theorem si_enum {ta : TA} {aa : AA} (h : SndA K W ta aa) : SndI K W (iEnumU K ta) (aiE aa) := by
  intro B0 H0 T ss σ H P Xe R Rp hp q x
  refine h B0 H0 T ss σ H _ Xe _ Rp hp (fun vs rs H' hr hl RR => ?_) x
  obtain ⟨B, RR⟩ := RR
  split at hr
  · rename_i d
    obtain ⟨v, rfl⟩ := tv1 hl
    have hv : Dq K B v d := RR.t (v, .dat d) (by simp)
    have R1 := RR.sub (T' := T) fun _ h => List.mem_append_right _ h
    cases ed : itemsD d with
    | none =>
      rw [ed] at hr
      exact (show False from hr).elim
    | some xs =>
      rw [ed] at hr
      have hr' : P (enumD xs) := hr
      cases hv with
      | lst hs ha =>
        cases ed
        exact ⟨_, _, rfl, .inl ⟨sql_of (RR.g.i _ _ hs), q _ _ B H' hr' R1 (itok_enum (fun H2 e => sql_of (e _ _ hs)) ha)⟩⟩
      | tup hs ha =>
        cases ed
        exact ⟨_, _, rfl, .inr ⟨same_t RR.g.i hs, q _ _ B H' hr' R1 (itok_enumT hs ha)⟩⟩
      | scr hs =>
        cases ed
        exact ⟨_, _, rfl, .inl ⟨(hs.mono RR.g.i).sq, q _ _ B H' hr' R1 (itok_enum (fun H2 e => (hs.mono e).sq) (dpAll_ints _))⟩⟩
      | non => cases ed
      | bl => cases ed
      | int => cases ed
      | str => cases ed
  · exact hr.elim
end
theorem qi_enum {X : Cx} {W : WX} {e : Expr} {aa : AA} {p pos tpos : Pos} {elts : List Expr} {kk : Nat} (hm : X.mg "enumerate" = none) (h : QA X W [e] aa) (hg : Gl X "enumerate" := by rfl) (hs : starEach [e] X.env = [(false, eval e X.env)] := by rfl) :
    QI X W (.Tuple elts kk tpos) (.Call (.Name "enumerate" p) [e] [] pos) (aiE aa) := let ⟨te, h1, h2⟩ := h; ⟨_, pi_enumU hg hm h1 hs, si_enum h2⟩

/-! ### range with a step -/
def rangeC (lo c : Int) (n : Nat) : List PyData := (List.range n).map fun k : Nat => .int (lo + (k : Int) * c)
theorem rangeC_len (lo c : Int) (n : Nat) : (rangeC lo c n).length = n := by
  unfold rangeC
  rw [List.length_map, List.length_range]
theorem rangeC_get {lo c : Int} {n i : Nat} {d : PyData} (h : (rangeC lo c n)[i]? = some d) : i < n ∧ d = .int (lo + (i : Int) * c) := by
  unfold rangeC at h
  rw [List.getElem?_map] at h
  by_cases hi : i < n
  · rw [List.getElem?_eq_getElem (by rw [List.length_range]; exact hi), List.getElem_range] at h
    exact ⟨hi, (Option.some.inj h).symm⟩
  · rw [List.getElem?_eq_none (by rw [List.length_range]; omega)] at h
    cases h
def aiR3 (aa : AA) : AI := fun ss P X => aa ss (fun rs => match rs with
  | [.dat (.int lo), .dat (.int hi), .dat (.int c)] => ∃ n, RgC lo hi c n ∧ P (rangeC lo c n)
  | _ => False) X
theorem tv3 {vs : List V} {t u w : TV} (hl : vs.length = [t, u, w].length) : ∃ a b c, vs = [a, b, c] := by
  match vs, hl with
  | [a, b, c], _ => exact ⟨a, b, c, rfl⟩
section
variable {K : PySem.W.Frag} {W : WX}
theorem itok_rangeC {lo c : Int} {n : Nat} {B : Hp} : ItOk K (Itc lo c n) B (rangeC lo c n) := by
  intro i Bc H s1 s2
  refine ⟨fun d hd => ?_, fun hi => ?_⟩
  · obtain ⟨hi, rfl⟩ := rangeC_get hd
    refine ⟨hi, fun x H' hy => ?_⟩
    obtain ⟨rfl, rfl⟩ := hy
    exact ⟨Bc, Grow.refl s2, .int _⟩
  · rw [rangeC_len] at hi
    exact hi
theorem si_r3 {ta : TA} {aa : AA} (h : SndA K W ta aa) : SndI K W (iRng3 ta) (aiR3 aa) := by
  intro B0 H0 T ss σ H P Xe R Rp hp q x
  refine h B0 H0 T ss σ H _ Xe _ Rp hp (fun vs rs H' hr hl RR => ?_) x
  obtain ⟨B, RR⟩ := RR
  split at hr
  · rename_i lo hi c
    obtain ⟨v, w, z, rfl⟩ := tv3 hl
    have hv : Dq K B v (.int lo) := RR.t (v, .dat (.int lo)) (by simp)
    have hw : Dq K B w (.int hi) := RR.t (w, .dat (.int hi)) (by simp)
    have hz : Dq K B z (.int c) := RR.t (z, .dat (.int c)) (by simp)
    cases hv
    cases hw
    cases hz
    obtain ⟨n, hn, hp⟩ := hr
    exact ⟨lo, hi, c, n, rfl, hn, q _ _ B H' hp (RR.sub fun _ h => List.mem_append_right _ h) itok_rangeC⟩
  · exact hr.elim
end
theorem qi_r3 {X : Cx} {W : WX} {tg a b c : Expr} {aa : AA} {p pos : Pos} (hm : X.mg "range" = none) (h : QA X W [a, b, c] aa) (hg : Gl X "range" := by rfl)
    (hs : starEach [a, b, c] X.env = (false, eval a X.env) :: starEach [b, c] X.env := by rfl) (hpl : (backTo pos (starEach [b, c] X.env)).any (·.1) = false := by rfl) :
    QI X W tg (.Call (.Name "range" p) [a, b, c] [] pos) (aiR3 aa) := let ⟨te, h1, h2⟩ := h; ⟨_, pi_range3 hg hm h1 hs hpl, si_r3 h2⟩

/-! ### list(reversed(x)), list(range(..)), the draws -/
def fLstRev (x : PyData) (k : RV → Prop) : Prop := match x with
  | .list xs => k (.new xs.reverse)
  | _ => False
def rLstRev (K : PySem.W.Frag) (v : V) (H : Hp) (Q : VK) : Prop := ∃ (a : Addr) (xs : List V), v = .ref a ∧ SqL K H a xs ∧ ∀ q, H q = none → Q (.ref q) (upd H q (.lst xs.reverse))
theorem us_lstRev {K : PySem.W.Frag} : UnS K (rLstRev K) fLstRev := by
  intro B H x dx k Q i ox hf q
  cases dx with
  | list xs =>
    obtain ⟨a, vs, rfl, ha, da⟩ := opd_list i ox
    exact ⟨a, vs, rfl, sql_of ha, fun p np => dat_lst (k := k) i hf (dpAll_rev da) q np⟩
  | _ => exact (show False from hf).elim
theorem qr_lstRev {X : Cx} {W : WX} {e : Expr} {ae : AE} {p p2 pos pos2 : Pos} (hm : X.mg "list" = none) (hm2 : X.mg "reversed" = none) (h : QE X W e ae) (hg : Gl X "list" := by rfl) (hg2 : Gl X "reversed" := by rfl) (hc : X.calm = true := by rfl)
    (hs : starEach [e] X.env = (false, eval e X.env) :: starEach [] X.env := by rfl)
    (hs2 : starEach [.Call (.Name "reversed" p2) [e] [] pos2] X.env = (false, eval (.Call (.Name "reversed" p2) [e] [] pos2) X.env) :: starEach [] X.env := by rfl) :
    QR X W (.Call (.Name "list" p) [.Call (.Name "reversed" p2) [e] [] pos2] [] pos) (aUn fLstRev ae) := by
  obtain ⟨te, h1, s1⟩ := h
  exact ⟨tUn (rLstRev X.K) te, pe_lstRev hg hm hg2 hm2 h1 hc hs hs2, snd_un s1 us_lstRev⟩
/-- a fresh list of ints from nought up: the draws -/
def aDrw (ar : AR) : AR := fun ss P X => ar ss (fun r => ∃ ns : List Int, r = .new (ns.map PyData.int) ∧ (∀ n ∈ ns, 0 ≤ n) ∧ ns.length ≤ 100000 ∧ P .drw) X
theorem snd_drw {K : PySem.W.Frag} {W : WX} {te : TE} {ar : AR} (h : SndR K W te ar) : SndR K W te (aDrw ar) := by
  intro B0 H0 T ss σ H P Xe Q R hp q x
  refine h B0 H0 T ss σ H _ Xe Q R hp (fun v r H' hr RR => ?_) x
  obtain ⟨ns, rfl, h0, hl, hP⟩ := hr
  obtain ⟨B, R1, ⟨l, vs, rfl, e0, e1, e2, e3⟩, ap⟩ := RR
  have ev := dpAll_ints_inv e3
  subst ev
  refine q _ .drw H' hP ⟨B, R1, ⟨l, rfl, e0, e1, ns, e2, h0, hl⟩, .inr ?_⟩
  rcases ap with ⟨d, z⟩ | ap
  · cases z
  · exact ap
theorem QR.w {X : Cx} {W : WX} {e : Expr} {ar : AR} (h : QR X W e ar) : QR X W e (aDrw ar) := let ⟨te, h1, h2⟩ := h; ⟨te, h1, snd_drw h2⟩
def aListR1 (a : AE) : AR := fun ss P X => a ss (fun x => match x with
  | .dat (.int j) => RgOk 0 j ∧ P (.new (rangeD 0 j.toNat))
  | _ => False) X
def aListR2 (a b : AE) : AR := fun ss P X => a ss (fun x => b ss (fun y => match x, y with
  | .dat (.int i), .dat (.int j) => RgOk i j ∧ P (.new (rangeD i (j - i).toNat))
  | _, _ => False) X) X
theorem dpAll_rg {K : PySem.W.Frag} {B : Hp} (i j : Int) : DqAll K B (rgV i j) (rangeD i (j - i).toNat) := by
  unfold rgV rangeD
  generalize (j - i).toNat = n
  generalize List.range n = l
  induction l with
  | nil => exact .nil
  | cons k r ih => exact .cons (.int _) ih
section
variable {K : PySem.W.Frag} {W : WX}
theorem snd_listR1 {ta : TE} {a : AE} (ha : Snd K W ta a) : SndR K W (tLstRg (tRg1 ta)) (aListR1 a) := by
  intro B0 H0 T ss σ H P Xe Q R hp q x
  refine ha B0 H0 T ss σ H _ Xe _ R hp (fun v1 t1 H1 h1 R1 => ?_) x
  obtain ⟨B, R1⟩ := R1
  split at h1
  · rename_i j
    have hv : Dq K B v1 (.int j) := R1.t (v1, .dat (.int j)) List.mem_cons_self
    cases hv
    refine ⟨j, rfl, h1.1, fun p np => q _ (.new (rangeD 0 j.toNat)) _ h1.2 ?_⟩
    have R2 := R1.sub (T' := T) fun _ h => List.mem_cons_of_mem _ h
    have e := dpAll_rg (K := K) (B := B) 0 j
    rw [Int.sub_zero] at e
    exact repR_of R2 (Grow.own R2.g.i np) ⟨p, _, rfl, np, Same.free R2.g.i np, upd_same, e⟩
  · exact h1.elim
theorem snd_listR2 {ta tb : TE} {a b : AE} (ha : Snd K W ta a) (hb : Snd K W tb b) : SndR K W (tLstRg (tRg2 ta tb)) (aListR2 a b) := by
  intro B0 H0 T ss σ H P Xe Q R hp q x
  refine ha B0 H0 T ss σ H _ Xe _ R hp (fun v1 t1 H1 h1 R1 => ?_) x
  refine hb B0 H0 _ ss σ H1 _ Xe _ R1 h1 (fun v2 t2 H2 h2 R2 => ?_) fun c H' hx R' => x c H' hx R'.tl
  obtain ⟨B, R2⟩ := R2
  split at h2
  · rename_i i j
    have hv : Dq K B v1 (.int i) := R2.t (v1, .dat (.int i)) (List.mem_cons_of_mem _ List.mem_cons_self)
    have hw : Dq K B v2 (.int j) := R2.t (v2, .dat (.int j)) List.mem_cons_self
    cases hv
    cases hw
    refine ⟨i, j, rfl, rfl, h2.1, fun p np => q _ (.new (rangeD i (j - i).toNat)) _ h2.2 ?_⟩
    have R3 := R2.sub (T' := T) fun _ h => List.mem_cons_of_mem _ (List.mem_cons_of_mem _ h)
    exact repR_of R3 (Grow.own R3.g.i np) ⟨p, _, rfl, np, Same.free R3.g.i np, upd_same, dpAll_rg i j⟩
  · exact h2.elim
end
section
variable {X : Cx} {W : WX} {a b : Expr} {ae ae' : AE} {p p2 pos pos2 : Pos}
theorem qr_listR1 (hm : X.mg "list" = none) (hm2 : X.mg "range" = none) (ha : QE X W a ae) (hg : Gl X "list" := by rfl) (hg2 : Gl X "range" := by rfl) (hc : X.calm = true := by rfl) (hs : starEach [a] X.env = (false, eval a X.env) :: starEach [] X.env := by rfl)
    (hs2 : starEach [.Call (.Name "range" p2) [a] [] pos2] X.env = (false, eval (.Call (.Name "range" p2) [a] [] pos2) X.env) :: starEach [] X.env := by rfl) :
    QR X W (.Call (.Name "list" p) [.Call (.Name "range" p2) [a] [] pos2] [] pos) (aListR1 ae) := by
  obtain ⟨te, h1, s1⟩ := ha
  exact ⟨_, pe_listRg hc hg hm (prg_1 hg2 hm2 h1 hs) hs2, snd_listR1 s1⟩
theorem qr_listR2 (hm : X.mg "list" = none) (hm2 : X.mg "range" = none) (ha : QE X W a ae) (hb : QE X W b ae') (hg : Gl X "list" := by rfl) (hg2 : Gl X "range" := by rfl) (hc : X.calm = true := by rfl) (hs : starEach [a, b] X.env = (false, eval a X.env) :: starEach [b] X.env := by rfl)
    (hs3 : starEach [b] X.env = (false, eval b X.env) :: starEach [] X.env := by rfl) (hpl : (backTo pos2 (starEach [b] X.env)).any (·.1) = false := by rfl)
    (hs2 : starEach [.Call (.Name "range" p2) [a, b] [] pos2] X.env = (false, eval (.Call (.Name "range" p2) [a, b] [] pos2) X.env) :: starEach [] X.env := by rfl) :
    QR X W (.Call (.Name "list" p) [.Call (.Name "range" p2) [a, b] [] pos2] [] pos) (aListR2 ae ae') := by
  obtain ⟨te, h1, s1⟩ := ha
  obtain ⟨te2, h2, s2⟩ := hb
  exact ⟨_, pe_listRg hc hg hm (prg_2 hg2 hm2 h1 h2 hs hs3 hpl) hs2, snd_listR2 s1 s2⟩
end
end AB
/-! Facts of a law's module; the draws. -/
namespace AB
open PySem PySem.Spec PyProof.Rows L2
/-- a def of the module -/
structure DefF (K : PySem.W.Frag) (mg : Str → Option Value) (x : Str) (st : Stmt) (ps : List Str) where
  f : Addr
  fd : FuncData
  fn : Fun K x x st f fd
  g : mg x = some (.ref f)
  bd : Binds K fd ps []
theorem FnOk.up {P : Program} {w : World} {K : PySem.W.Frag} {mg : Str → Option Value} {base : Heap} {CX : CXT} {k j : Nat} {f : Addr} {fd : FuncData} {ps : List Str} {sp : Sp} (F : FnOk P w K mg base CX k f fd ps sp) (h : k ≤ j) : FnOk P w K mg base CX j f fd ps sp :=
  ⟨F.len, fun A outer s H args us vs Q E hr e0 hb r hs => F.run A outer s H args us vs Q E (hr.mono h) e0 hb r hs⟩
/-- how the module's five errors stand -/
structure ErrF (K : PySem.W.Frag) (mg : Str → Option Value) (C : Nat → Addr) (bm : List Value) (nid iid : String) (Bits : Addr) : Prop where
  b : ExcBaseFacts "ValueError" nid iid bm
  e : Errs K mg C
  x : ∀ j, j < 5 → PySem.W.excIn K (C j) bm nid = true
  kp : ∀ j, j < 5 → PySem.W.keepIn K (.ref (C j)) = true
  ty : ∀ j, j < 5 → PySem.W.typeIn K (.ref (C j)) = some (.type "type")
  gb : mg "BitsError" = some (.ref Bits)
  cat : ∀ j, j < 5 → PySem.W.exmOne K (.ref (C j)) (.ref Bits) = some true
def errName : Nat → Str
  | 0 => "OutOfRange"
  | 1 => "Malformed"
  | 2 => "NotThere"
  | 3 => "Refused"
  | _ => "TooMuch"
theorem five' {j : Nat} (hj : j < 5) : j = 0 ∨ j = 1 ∨ j = 2 ∨ j = 3 ∨ j = 4 := by omega
theorem Errs.g {K : PySem.W.Frag} {mg : Str → Option Value} {C : Nat → Addr} (e : Errs K mg C) {j : Nat} (hj : j < 5) : mg (errName j) = some (.ref (C j)) := by
  rcases five' hj with rfl | rfl | rfl | rfl | rfl
  · exact e.g0
  · exact e.g1
  · exact e.g2
  · exact e.g3
  · exact e.g4
theorem qs_err {X : Cx} {W : WX} {C : Nat → Addr} {bm : List Value} {nid iid : String} {Bits : Addr} {x : Str} {m : Str} {jc : Nat} {p q1 q2 pos : Pos} (j : Nat) (e : ErrF X.K X.mg C bm nid iid Bits) (tk : L2N.Takes X W) (hj : j < 5 := by decide) (hx : errName j = x := by rfl) (hg : Gl X x := by rfl)
    (hdb : (x == ("__debug__" : Str)) = false := by decide) (hc : X.calm = true := by rfl) : QS X W (.Raise (some (.Call (.Name x p) [.Constant (.str m) jc q1] [] q2)) none pos) (aRaise (.ref (C j))) := by
  subst hx
  exact qs_raise e.b (e.x j hj) (e.e.g hj) (e.kp j hj) (raises_own (e.e.e j hj).hs (e.ty j hj)) tk hg hdb hc

/-! ### a draw -/
def ft_take : FT := fun ds P _ => ∃ n : Int, ds = [.int n] ∧ 0 < n ∧ ∀ r : Int, 0 ≤ r → r < n → P (.dat (.int r))
theorem calm_take : Calm ft_take := fun _ _ _ h => h
def tTakeC (K : PySem.W.Frag) : TT := tTest (tOp rEq (tCB (rLenQ K) (tCons (tVar 0) tNil)) (tC (.int 0)))
def tTakeR (K : PySem.W.Frag) : TE := tOp (rI (fun _ j => 0 < j) fun i j => .int (i % j)) (tCB rInt1 (tCons (tBM0 K "list" rPop (tVar 0)) tNil)) (tVar 1)
def tTake (K : PySem.W.Frag) : TS := tSeq (tIfS (tTakeC K) (tRet (tC (.int 0))) tNext) (tRet (tTakeR K))
section
variable {K : PySem.W.Frag} {H B : Hp} {l : Addr} {n : Int}
theorem takeC_ok {ns : List Int} {P : Bool → Hp → Prop} (hl : H l = some (.lst (ns.map V.int))) (q : P (decide (ns.length = 0)) H) : tTakeC K [some (.ref l), some (.int n)] H P := by
  refine tstI (opI ⟨.ref l, rfl, l, ns.map V.int, rfl, .inl (.inl (.inl hl)), rfl, _, rfl, ?_⟩)
  have e : decide (V.int ((ns.map V.int).length : Nat) = V.int 0) = decide (ns.length = 0) := by
    rw [List.length_map]
    by_cases z : ns.length = 0
    · rw [decide_eq_true z, z]
      exact decide_eq_true rfl
    · rw [decide_eq_false z]
      refine decide_eq_false fun y => z ?_
      have y' := V.int.inj y
      omega
  rw [e]
  exact q
theorem takeR_ok {ns : List Int} {m : Int} {Q : VK} (hl : H l = some (.lst ((ns ++ [m]).map V.int))) (hn : 0 < n) (q : Q (.int (m % n)) (upd H l (.lst (ns.map V.int)))) : tTakeR K [some (.ref l), some (.int n)] H Q := by
  refine opI ⟨.ref l, rfl, .inl ⟨rfl, _, .inl (.inl hl)⟩, ?_⟩
  show rPop (.ref l) [] H _
  refine ⟨l, _, .int m, rfl, rfl, hl, ?_, ?_⟩
  · rw [List.map_append, List.length_append]
    show ((ns.map V.int) ++ [V.int m])[(ns.map V.int).length + 1 - 1]? = _
    rw [Nat.add_sub_cancel, List.getElem?_append_right (Nat.le_refl _), Nat.sub_self]
    rfl
  · rw [List.map_append]
    show tNil _ _ _
    rw [show (ns.map V.int ++ [m].map V.int).dropLast = ns.map V.int from List.dropLast_concat]
    exact .inl ⟨m, rfl, .int n, rfl, m, n, rfl, rfl, hn, q⟩
theorem take_ok {D : Ends} (hd : DrawsAt H l) (nb : B l = none) (sb : Same B H) (hn : 0 < n) (q : ∀ (r : Int) (H' : Hp), 0 ≤ r → r < n → Grow B (wo H l) B H' → DrawsAt H' l → D.rt (.int r) H') : tTake K D [some (.ref l), some (.int n)] H := by
  obtain ⟨ns, hl, h0, hz⟩ := hd
  refine seqI (ifI (takeC_ok hl ?_))
  by_cases e : ns.length = 0
  · rw [decide_eq_true e, if_pos rfl]
    exact retI (q 0 H (Int.le_refl _) hn ⟨Same.refl B, sb, wo_sub, fun _ _ e => e⟩ ⟨ns, hl, h0, hz⟩)
  · rw [decide_eq_false e, if_neg Bool.false_ne_true]
    obtain ⟨ms, m, rfl⟩ : ∃ ms m, ns = ms ++ [m] := by
      refine ⟨ns.dropLast, ns.getLast (fun z => e (by rw [z]; rfl)), ?_⟩
      exact (List.dropLast_concat_getLast _).symm
    show tRet (tTakeR K) D _ _
    refine retI (takeR_ok hl hn (q _ _ (Int.emod_nonneg _ (by omega)) (Int.emod_lt_of_pos _ hn) ⟨Same.refl B, fun a o e => ?_, fun a o e => ?_, fun _ _ e => e⟩ ⟨ms, upd_same, fun x hx => h0 x (List.mem_append_left _ hx), ?_⟩))
    · rw [upd_ne (fun z => by rw [z, nb] at e; cases e)]
      exact sb a o e
    · rw [upd_ne (fun z => by rw [z, wo_same] at e; cases e)]
      exact wo_sub a o e
    · rw [List.length_append] at hz
      exact Nat.le_trans (Nat.le_add_right _ _) hz
end
theorem ok_take {P : Program} {w : World} {K : PySem.W.Frag} {mg : Str → Option Value} {base : Heap} {x : Str} {st : Stmt} {k : Nat} (D : DefF K mg x st ["draws", "bound"]) (S : FnScope ["draws", "bound"] ["draws", "bound"] (defScope st))
    (body : ∀ (cdv : Value) (A : Around) (outer : List Env) (s : Shared) (H : Hp) (E : XK), Room k (A.deeper (envOfC x (defScope st) s.heap.objs.size D.f cdv)) → PSs (cxB P w K mg base ["draws", "bound"] x st D.f cdv A outer s H E) (defBody st) (tTake K)) :
    FnOk P w K mg base (L2N.CX P w) (k + 1) D.f D.fd ["draws", "bound"] (spR K ft_take) := by
  obtain ⟨oc, od, kV, doc, pm, an, cdv, ct, osl, e, lk, hcd⟩ := D.fn.ex
  rw [e] at lk ⊢
  refine fn_of lk hcd S (fun vs H Q E h => ?_) fun A outer s H vs Q E hr hsp => ?_
  · obtain ⟨l, vr, B, ds, P', X', rfl, _, _, _, da, ⟨n, rfl, _⟩, _⟩ := h
    rw [List.length_cons, dpAll_len da]
    rfl
  · obtain ⟨l, vr, B, ds, P', X', rfl, hd, nb, sb, da, ⟨n, rfl, hn, hp⟩, hq, _⟩ := hsp
    refine ⟨_, body cdv A outer s H E hr, ?_⟩
    cases da with
    | cons hv hr2 =>
      cases hv
      cases hr2
      exact take_ok hd nb sb hn fun r H' r0 r1 g dd => hq _ (.int r) B H' (hp r r0 r1) g nb dd (.int r)
end AB
namespace AB
open PySem PySem.Spec PyProof.Rows L2
/-- where it raises nothing -/
def ftP (ft : FT) : FT := fun ds P _ => ft ds P fun _ => False
theorem calmP {ft : FT} : Calm (ftP ft) := fun _ _ _ h => h
theorem FnOk.p {P : Program} {w : World} {K : PySem.W.Frag} {mg : Str → Option Value} {base : Heap} {CX : CXT} {k : Nat} {f : Addr} {fd : FuncData} {ps : List Str} {ft : FT} (F : FnOk P w K mg base CX k f fd ps (spD K ft)) : FnOk P w K mg base CX k f fd ps (spD K (ftP ft)) := by
  have e : ∀ vs H Q E, spD K (ftP ft) vs H Q E → spD K ft vs H Q E := fun vs H Q E h => by
    obtain ⟨B, ds, P', X', sb, da, hf, hq, hx⟩ := h
    exact ⟨B, ds, P', fun _ => False, sb, da, hf, hq, fun c B' H' z _ => z.elim⟩
  exact ⟨fun vs H Q E h => F.len vs H Q E (e vs H Q E h), fun A outer s H args us vs Q E hr e0 hb r hs => F.run A outer s H args us vs Q E hr e0 hb r (e vs H Q E hs)⟩
/-- a comprehension's block is fit -/
def blkOk (N : List Str) (sc scope : Scope) (own : List (Str × Nat)) : Bool :=
  decide (scope.kind = .function) && scope.names.all (fun y => decide (scope.names.lookup y.1 = some y.2)) && own.all (fun p => decide (N[p.2]? = some p.1)) &&
    scope.names.all (fun y => decide (y.2 = .free → sc.names.lookup y.1 = some .cell ∨ sc.names.lookup y.1 = some .free)) &&
    scope.names.all (fun y => decide (y.2 = .local ∨ y.2 = .cell → y.1 ∈ own.map (·.1) ∨ y.1 ∉ N))
theorem blk_of {N : List Str} {sc scope : Scope} {own : List (Str × Nat)} (h : blkOk N sc scope own = true) : BlkOk N sc scope own := by
  unfold blkOk at h
  simp only [Bool.and_eq_true, List.all_eq_true, decide_eq_true_eq] at h
  obtain ⟨⟨⟨⟨h1, h2⟩, h3⟩, h4⟩, h5⟩ := h
  exact ⟨h1, fun y hy => h2 y hy, fun p hp => h3 p hp, fun y hy e => h4 y hy e, fun y hy e => h5 y hy e⟩
/-! ### isinstance on data -/
theorem isD_int_non : isD "int" .none = false := by
  show (match kitB "NoneType" "int" with | some b => b | none => false) = false
  decide +kernel
theorem isD_int_bl (b : Bool) : isD "int" (.bool b) = true := by
  show (match kitB "bool" "int" with | some b => b | none => false) = true
  decide +kernel
theorem isD_int_int (i : Int) : isD "int" (.int i) = true := by
  show (match kitB "int" "int" with | some b => b | none => false) = true
  decide +kernel
theorem isD_int_str (x : Str) : isD "int" (.str x) = false := by
  show (match kitB "str" "int" with | some b => b | none => false) = false
  decide +kernel
theorem isD_int_lst (xs : List PyData) : isD "int" (.list xs) = false := by
  show (match kitB "list" "int" with | some b => b | none => false) = false
  decide +kernel
theorem isD_int_tup (xs : List PyData) : isD "int" (.tuple xs) = false := by
  show (match kitB "tuple" "int" with | some b => b | none => false) = false
  decide +kernel
theorem isD_bool_non : isD "bool" .none = false := by
  show (match kitB "NoneType" "bool" with | some b => b | none => false) = false
  decide +kernel
theorem isD_bool_bl (b : Bool) : isD "bool" (.bool b) = true := by
  show (match kitB "bool" "bool" with | some b => b | none => false) = true
  decide +kernel
theorem isD_bool_int (i : Int) : isD "bool" (.int i) = false := by
  show (match kitB "int" "bool" with | some b => b | none => false) = false
  decide +kernel
theorem isD_bool_str (x : Str) : isD "bool" (.str x) = false := by
  show (match kitB "str" "bool" with | some b => b | none => false) = false
  decide +kernel
theorem isD_bool_lst (xs : List PyData) : isD "bool" (.list xs) = false := by
  show (match kitB "list" "bool" with | some b => b | none => false) = false
  decide +kernel
theorem isD_bool_tup (xs : List PyData) : isD "bool" (.tuple xs) = false := by
  show (match kitB "tuple" "bool" with | some b => b | none => false) = false
  decide +kernel
theorem isD_list_non : isD "list" .none = false := by
  show (match kitB "NoneType" "list" with | some b => b | none => false) = false
  decide +kernel
theorem isD_list_bl (b : Bool) : isD "list" (.bool b) = false := by
  show (match kitB "bool" "list" with | some b => b | none => false) = false
  decide +kernel
theorem isD_list_int (i : Int) : isD "list" (.int i) = false := by
  show (match kitB "int" "list" with | some b => b | none => false) = false
  decide +kernel
theorem isD_list_str (x : Str) : isD "list" (.str x) = false := by
  show (match kitB "str" "list" with | some b => b | none => false) = false
  decide +kernel
theorem isD_list_lst (xs : List PyData) : isD "list" (.list xs) = true := by
  show (match kitB "list" "list" with | some b => b | none => false) = true
  decide +kernel
theorem isD_list_tup (xs : List PyData) : isD "list" (.tuple xs) = false := by
  show (match kitB "tuple" "list" with | some b => b | none => false) = false
  decide +kernel
theorem isD_tuple_non : isD "tuple" .none = false := by
  show (match kitB "NoneType" "tuple" with | some b => b | none => false) = false
  decide +kernel
theorem isD_tuple_bl (b : Bool) : isD "tuple" (.bool b) = false := by
  show (match kitB "bool" "tuple" with | some b => b | none => false) = false
  decide +kernel
theorem isD_tuple_int (i : Int) : isD "tuple" (.int i) = false := by
  show (match kitB "int" "tuple" with | some b => b | none => false) = false
  decide +kernel
theorem isD_tuple_str (x : Str) : isD "tuple" (.str x) = false := by
  show (match kitB "str" "tuple" with | some b => b | none => false) = false
  decide +kernel
theorem isD_tuple_lst (xs : List PyData) : isD "tuple" (.list xs) = false := by
  show (match kitB "list" "tuple" with | some b => b | none => false) = false
  decide +kernel
theorem isD_tuple_tup (xs : List PyData) : isD "tuple" (.tuple xs) = true := by
  show (match kitB "tuple" "tuple" with | some b => b | none => false) = true
  decide +kernel
theorem isD_str_non : isD "str" .none = false := by
  show (match kitB "NoneType" "str" with | some b => b | none => false) = false
  decide +kernel
theorem isD_str_bl (b : Bool) : isD "str" (.bool b) = false := by
  show (match kitB "bool" "str" with | some b => b | none => false) = false
  decide +kernel
theorem isD_str_int (i : Int) : isD "str" (.int i) = false := by
  show (match kitB "int" "str" with | some b => b | none => false) = false
  decide +kernel
theorem isD_str_str (x : Str) : isD "str" (.str x) = true := by
  show (match kitB "str" "str" with | some b => b | none => false) = true
  decide +kernel
theorem isD_str_lst (xs : List PyData) : isD "str" (.list xs) = false := by
  show (match kitB "list" "str" with | some b => b | none => false) = false
  decide +kernel
theorem isD_str_tup (xs : List PyData) : isD "str" (.tuple xs) = false := by
  show (match kitB "tuple" "str" with | some b => b | none => false) = false
  decide +kernel
end AB
/-! The readings' own rewriting, which leaves what is not yet known as it stands. -/
namespace AB
open PySem PySem.Spec PyProof.Rows L2
def frzK (P : TV → Prop) : RV → Prop := fun r => match r with
  | .dat d => P (.dat d)
  | .new xs => P (.dat (.list xs))
  | .drw => False
def frzRK (P : RV → Prop) : RV → Prop := fun r => match r with
  | .dat d => P (.dat d)
  | .new xs => P (.dat (.list xs))
  | .drw => P .drw
def toRK (P : RV → Prop) : TV → Prop := fun t => match t with
  | .dat d => P (.dat d)
  | .ali _ => False
def tbK (P : Bool → Prop) : RV → Prop := fun r => match r with
  | .dat (.bool b) => P b
  | _ => False
def asgK (i : Nat) (nx : List SV → Prop) (ss : List SV) : RV → Prop := fun r => match r with
  | .dat d => nx (ss.set i (.val d))
  | .new xs => nx (ss.set i (.lst xs))
  | .drw => ∀ l, nx (ss.set i (.drw l))
def varK (i : Nat) (P : TV → Prop) : Option SV → Prop := fun o => match o with
  | some (.val d) => P (.dat d)
  | some (.lst _) => P (.ali i)
  | some (.drw _) => P (.ali i)
  | _ => False
def aliK (o : Option SV) : Option PyData := match o with
  | some (.lst xs) => some (.list xs)
  | _ => none
def frzSK (i : Nat) (s : AS) (A : AD) (ss : List SV) : Option SV → Prop := fun o => match o with
  | some (.lst xs) => s A (ss.set i (.val (.list xs)))
  | _ => s A ss
def iteK (p q : Prop) (b : Bool) : Prop := if b = true then p else q
section
variable {ar t u : AR} {ae : AE} {P : RV → Prop} {Q : TV → Prop} {B : Bool → Prop} {i : Nat} {nx : List SV → Prop} {ss : List SV} {d : PyData} {xs : List PyData} {b : Bool} {p q : Prop} {c : AT} {s s' : AS}
theorem aVar_eq : aVar i = fun ss P _ => varK i P ss[i]? := rfl
theorem aFrz_eq : aFrz i s = fun A ss => frzSK i s A ss ss[i]? := rfl
theorem varK_val : varK i Q (some (.val d)) = Q (.dat d) := rfl
theorem varK_lst : varK i Q (some (.lst xs)) = Q (.ali i) := rfl
theorem varK_drw {l : Addr} : varK i Q (some (.drw l)) = Q (.ali i) := rfl
theorem frzSK_lst {A : AD} : frzSK i s A ss (some (.lst xs)) = s A (ss.set i (.val (.list xs))) := rfl
theorem frzSK_val {A : AD} : frzSK i s A ss (some (.val d)) = s A ss := rfl
theorem look_ali : look ss (.ali i) = aliK ss[i]? := rfl
theorem aliK_lst : aliK (some (.lst xs)) = some (.list xs) := rfl
theorem frz_eq : frz ar = fun ss P X => ar ss (frzK P) X := rfl
theorem frzR_eq : frzR ar = fun ss P X => ar ss (frzRK P) X := rfl
theorem toR_eq : toR ae = fun ss P X => ae ss (toRK P) X := rfl
theorem aTB_eq : aTB ar = fun ss P X => ar ss (tbK P) X := rfl
theorem aAsg_eq : aAsg i ar = fun A ss => ar ss (asgK i A.nx ss) fun c => A.ex c ss := rfl
theorem aIfS_eq : aIfS c s s' = fun A ss => c ss (fun b => iteK (s A ss) (s' A ss) b) fun c => A.ex c ss := rfl
theorem aNotT_eq : aNotT c = fun ss P X => c ss (fun b => P (!b)) X := rfl
theorem aAndT_eq {c c' : AT} : aAndT c c' = fun ss P X => c ss (fun b => iteK (c' ss P X) (P false) b) X := rfl
theorem aOrT_eq {c c' : AT} : aOrT c c' = fun ss P X => c ss (fun b => iteK (P true) (c' ss P X) b) X := rfl
theorem aIf_eq : aIf c t u = fun ss P X => c ss (fun b => iteK (t ss P X) (u ss P X) b) X := rfl
theorem frzK_dat : frzK Q (.dat d) = Q (.dat d) := rfl
theorem frzK_new : frzK Q (.new xs) = Q (.dat (.list xs)) := rfl
theorem frzRK_dat : frzRK P (.dat d) = P (.dat d) := rfl
theorem frzRK_new : frzRK P (.new xs) = P (.dat (.list xs)) := rfl
theorem frzRK_drw : frzRK P .drw = P .drw := rfl
theorem toRK_dat : toRK P (.dat d) = P (.dat d) := rfl
theorem tbK_bool : tbK B (.dat (.bool b)) = B b := rfl
theorem asgK_dat : asgK i nx ss (.dat d) = nx (ss.set i (.val d)) := rfl
theorem asgK_new : asgK i nx ss (.new xs) = nx (ss.set i (.lst xs)) := rfl
theorem asgK_drw : asgK i nx ss .drw = ∀ l, nx (ss.set i (.drw l)) := rfl
theorem iteK_true : iteK p q true = p := if_pos rfl
theorem iteK_false : iteK p q false = q := if_neg Bool.false_ne_true
theorem iteK_pos (h : b = true) : iteK p q b = p := if_pos h
theorem iteK_neg (h : b = false) : iteK p q b = q := by rw [h]; exact iteK_false
theorem iteK_dec {r : Prop} [Decidable r] : iteK p q (decide r) = if r then p else q := by
  unfold iteK
  by_cases h : r
  · rw [if_pos h, if_pos (decide_eq_true h)]
  · rw [if_neg h, if_neg (by rw [decide_eq_false h]; exact Bool.false_ne_true)]
end
section
variable {i j : Int} {k : RV → Prop} {x y : Str} {xs ys : List PyData} {a b : Bool} {d : PyData} {ss : List SV} {n : Nat} {g : PyData → PyData → Prop} {g1 : PyData → Prop} {d2 : PyData} {f : Int → Int → Bool}
theorem fAdd_int : fAdd (.int i) (.int j) k = k (.dat (.int (i + j))) := rfl
theorem fAdd_tup : fAdd (.tuple xs) (.tuple ys) k = (xs.length + ys.length ≤ 200000 ∧ k (.dat (.tuple (xs ++ ys)))) := rfl
theorem fAdd_lst : fAdd (.list xs) (.list ys) k = (xs.length + ys.length ≤ 200000 ∧ k (.new (xs ++ ys))) := rfl
theorem fAdd_str : fAdd (.str x) (.str y) k = (x.length + y.length ≤ 100000 ∧ k (.dat (.str (x ++ y)))) := rfl
theorem fSub_int : fSub (.int i) (.int j) k = k (.dat (.int (i - j))) := rfl
theorem fMul_int : fMul (.int i) (.int j) k = (MOk i j ∧ k (.dat (.int (i * j)))) := rfl
theorem fMul_lst : fMul (.list xs) (.int j) k = (xs.length * j.toNat ≤ 200000 ∧ j ≤ 1000000 ∧ -1000000 ≤ j ∧ k (.new (List.replicate j.toNat xs).flatten)) := rfl
theorem fDiv_int : fDiv (.int i) (.int j) k = (DOk j ∧ k (.dat (.int (i / j)))) := rfl
theorem fMod_int : fMod (.int i) (.int j) k = (0 < j ∧ k (.dat (.int (i % j)))) := rfl
theorem fPow_int : fPow (.int i) (.int j) k = (CPow i j ∧ k (.dat (.int (i ^ j.toNat)))) := rfl
theorem fShl_int : fShl (.int i) (.int j) k = (CShl i j ∧ k (.dat (.int (i * 2 ^ j.toNat)))) := rfl
theorem fShr_int : fShr (.int i) (.int j) k = (0 ≤ j ∧ k (.dat (.int (i / 2 ^ j.toNat)))) := rfl
theorem fAnd1_int : fAnd1 (.int i) (.int j) k = (j = 1 ∧ k (.dat (.int (i % 2)))) := rfl
theorem fCmp_int : fCmp f (.int i) (.int j) k = k (.dat (.bool (f i j))) := rfl
theorem fNeg_int : fNeg (.int i) k = k (.dat (.int (-i))) := rfl
theorem fIs_non : fIs d .none k = k (.dat (.bool (isNoneD d))) := by cases d <;> rfl
theorem fIsNot_non : fIsNot d .none k = k (.dat (.bool (!isNoneD d))) := by cases d <;> rfl
theorem fIs_bool : fIs (.bool a) (.bool b) k = k (.dat (.bool (decide (a = b)))) := rfl
theorem fIsNot_bool : fIsNot (.bool a) (.bool b) k = k (.dat (.bool (!decide (a = b)))) := rfl
theorem fIx_lst : fIx (.list xs) (.int i) k = ∃ d, atI xs i = some d ∧ k (.dat d) := rfl
theorem fIx_tup : fIx (.tuple xs) (.int i) k = ∃ d, atI xs i = some d ∧ k (.dat d) := rfl
theorem fIx_scr : fIx (.dict [(.none, .list xs)]) (.int i) k = ∃ d, atI xs i = some d ∧ k (.dat d) := rfl
theorem fIx_str : fIx (.str x) (.int i) k = (x.length ≤ 100000 ∧ ∃ c, atI x.cps.toList i = some c ∧ k (.dat (.str ⟨#[c]⟩))) := rfl
theorem fSl_lst {lo hi : Option Int} : fSl (.list xs) lo hi k = k (.new (cutD xs lo hi)) := rfl
theorem fSl_tup {lo hi : Option Int} : fSl (.tuple xs) lo hi k = k (.dat (.tuple (cutD xs lo hi))) := rfl
theorem fAbs_int : fAbs [.int i] k = k (.dat (.int (if i < 0 then -i else i))) := rfl
theorem fInt_int : fInt [.int i] k = k (.dat (.int i)) := rfl
theorem fInt_bool : fInt [.bool b] k = k (.dat (.int (if b then 1 else 0))) := rfl
theorem fMax2_int : fMax2 [.int i, .int j] k = k (.dat (.int (if j > i then j else i))) := rfl
theorem fMin2_int : fMin2 [.int i, .int j] k = k (.dat (.int (if j < i then j else i))) := rfl
theorem fLen_scr : fLen [.dict [(.none, .list xs)]] k = k (.dat (.int xs.length)) := rfl
theorem fLen_lst : fLen [.list xs] k = k (.dat (.int xs.length)) := rfl
theorem fLen_tup : fLen [.tuple xs] k = k (.dat (.int xs.length)) := rfl
theorem fLen_str : fLen [.str x] k = (x.length ≤ 100000 ∧ k (.dat (.int x.length))) := rfl
theorem fTupleOf_lst : fTupleOf [.list xs] k = k (.dat (.tuple xs)) := rfl
theorem fTupleOf_tup : fTupleOf [.tuple xs] k = k (.dat (.tuple xs)) := rfl
theorem fListOf_lst : fListOf [.list xs] k = k (.new xs) := rfl
theorem fListOf_tup : fListOf [.tuple xs] k = k (.new xs) := rfl
theorem fSum_lst : fSum [.list xs] k = ∃ ns : List Int, xs = ns.map PyData.int ∧ k (.dat (.int ns.sum)) := rfl
theorem fSum_tup : fSum [.tuple xs] k = ∃ ns : List Int, xs = ns.map PyData.int ∧ k (.dat (.int ns.sum)) := rfl
theorem fLstRev_lst : fLstRev (.list xs) k = k (.new xs.reverse) := rfl
theorem fEq_eq {d e : PyData} : fEq d e k = (SeqAt.shaped d = true ∧ SeqAt.shaped e = true ∧ k (.dat (.bool (PyData.eqv d e)))) := rfl
theorem fNe_eq {d e : PyData} : fNe d e k = (SeqAt.shaped d = true ∧ SeqAt.shaped e = true ∧ k (.dat (.bool (!PyData.eqv d e)))) := rfl
theorem on2_ss : on2 (some d) (some d2) g = g d d2 := rfl
theorem on1_s : on1 (some d) g1 = g1 d := rfl
theorem look_dat : look ss (.dat d) = some d := rfl
/-- scalars -/
theorem eqv_ii (i : Int) : PyData.eqv (.int i) (.int i) = true := by
  show (i == i) = true
  exact beq_self_eq_true i
theorem eqv_int (i j : Int) : PyData.eqv (.int i) (.int j) = (i == j) := rfl
theorem eqv_bb (b : Bool) : PyData.eqv (.bool b) (.bool b) = true := by cases b <;> rfl
theorem eqv_ss (x : Str) : PyData.eqv (.str x) (.str x) = true := by
  show (x == x) = true
  exact beq_self_eq_true x
theorem eqv_str (x y : Str) : PyData.eqv (.str x) (.str y) = (x == y) := rfl
theorem shaped_int (i : Int) : SeqAt.shaped (.int i) = true := rfl
theorem shaped_b (b : Bool) : SeqAt.shaped (.bool b) = true := rfl
theorem shaped_non : SeqAt.shaped .none = true := rfl
end
end AB
/-! The law's head. -/
namespace AB
open PySem PySem.Spec PyProof.Rows L2
theorem kit_no {K : PySem.W.Frag} {a b : Addr} (h1 : ((Value.ref a == Value.ref b) : Bool) = false) (h2 : (PySem.W.clsIn K b).isSome = true) (h3 : PySem.W.typeIn K (.ref b) = some (.type "type")) (h4 : PySem.W.subIn K (.ref a) (.ref b) = some false) : PySem.W.kitOne K (.ref a) (.ref b) = some false := by
  unfold PySem.W.kitOne
  rw [if_neg (by rw [h1]; exact Bool.false_ne_true)]
  show (if ((PySem.W.clsIn K b).isSome && PySem.W.typeIn K (.ref b) == some (.type "type")) = true then _ else _) = _
  rw [if_pos (by rw [h2, h3]; rfl)]
  exact h4
theorem law_in {K : PySem.W.Frag} {H : Hp} {a : Addr} {ns : List Int} {ft : FT} (hO : L2.Only H) (hS : SqL K H a (ns.map V.int)) (hf : ∀ P : RV → Prop, P (.dat (.bool true)) → ft [.dict [(.none, .list (ns.map PyData.int))]] P fun _ => False) : spD K ft [.ref a] H (fun v _ => v = .bl true) fun _ _ _ => False := by
  have sc : Scr K H a ns := by
    rcases hS with (h | ⟨o, h⟩) | h
    · rcases hO a with z | ⟨o, xs, z⟩
      · rw [h] at z
        cases z
      · rw [h] at z
        cases z
    · exact .inl ⟨o, h⟩
    · exact .inr h
  refine ⟨H, [.dict [(.none, .list (ns.map PyData.int))]], fun r => r = .dat (.bool true), fun _ => False, Same.refl H, .cons (.scr sc) .nil, hf _ rfl, fun v r B' H' e _ rv => ?_, fun _ _ _ z _ => z⟩
  subst e
  cases rv
  rfl
theorem law_out {P : Program} {w : World} {H : Hp} {s s' : Shared} {e : Value} (h : L2N.CX P w [] H s (fun _ _ _ => False) e s') : False := by
  obtain ⟨_, _, _, _, _, _, _, _, _, _, _, _, z⟩ := h
  exact z
end AB
namespace AB
open PySem PySem.Spec PyProof.Rows L2
theorem cls_some {K : PySem.W.Frag} {C : Addr} (h : PySem.W.hasDictIn K C = true) : (PySem.W.clsIn K C).isSome = true := by
  obtain ⟨cd, hc, _⟩ := PySem.W.any_some h
  rw [hc]
  rfl
end AB
namespace K15
open PySem PySem.Spec PyProof.Rows L2 AB
def topS (i : Nat) : Stmt := PySem.Challenge.pw_bitsoftrees_k15_whole_ranks_of_rows_and.main.body.getD i (.Pass ⟨0, 0, 0, 0⟩)
abbrev s_is_number : Stmt := topS 8
theorem sc_is_number : FnScope ["value", "least", "most"] ["value", "least", "most"] (defScope s_is_number) := ⟨rfl, rfl, rfl, by decide +kernel, rfl, by decide +kernel, by decide +kernel⟩
abbrev s_bits_for : Stmt := topS 11
theorem sc_bits_for : FnScope ["many", "found"] ["many"] (defScope s_bits_for) := ⟨rfl, rfl, rfl, by decide +kernel, rfl, by decide +kernel, by decide +kernel⟩
abbrev s_binomial : Stmt := topS 12
theorem sc_binomial : FnScope ["long", "ones", "found", "at"] ["long", "ones"] (defScope s_binomial) := ⟨rfl, rfl, rfl, by decide +kernel, rfl, by decide +kernel, by decide +kernel⟩
abbrev s_rank_of : Stmt := topS 13
theorem sc_rank_of : FnScope ["bits", "found", "left", "at", "bit"] ["bits"] (defScope s_rank_of) := ⟨rfl, rfl, rfl, by decide +kernel, rfl, by decide +kernel, by decide +kernel⟩
abbrev s_bits_of : Stmt := topS 14
theorem sc_bits_of : FnScope ["long", "ones", "rank", "found", "at", "many"] ["long", "ones", "rank"] (defScope s_bits_of) := ⟨rfl, rfl, rfl, by decide +kernel, rfl, by decide +kernel, by decide +kernel⟩
abbrev s_rank_width : Stmt := topS 15
theorem sc_rank_width : FnScope ["long", "ones"] ["long", "ones"] (defScope s_rank_width) := ⟨rfl, rfl, rfl, by decide +kernel, rfl, by decide +kernel, by decide +kernel⟩
abbrev s_cells_of : Stmt := topS 16
theorem sc_cells_of : FnScope ["number", "width", "at"] ["number", "width"] (defScope s_cells_of) := ⟨rfl, rfl, rfl, by decide +kernel, rfl, by decide +kernel, by decide +kernel⟩
abbrev s_number_of : Stmt := topS 17
theorem sc_number_of : FnScope ["cells", "found", "bit"] ["cells"] (defScope s_number_of) := ⟨rfl, rfl, rfl, by decide +kernel, rfl, by decide +kernel, by decide +kernel⟩
abbrev s__law_draws : Stmt := topS 19
theorem sc__law_draws : FnScope ["script", "draws", "cell", "number", "first", "k", "seed"] ["script"] (defScope s__law_draws) := ⟨rfl, rfl, rfl, by decide +kernel, rfl, by decide +kernel, by decide +kernel⟩
abbrev s__law_take : Stmt := topS 20
theorem sc__law_take : FnScope ["draws", "bound"] ["draws", "bound"] (defScope s__law_take) := ⟨rfl, rfl, rfl, by decide +kernel, rfl, by decide +kernel, by decide +kernel⟩
abbrev s__law_alike : Stmt := topS 21
theorem sc__law_alike : FnScope ["found", "due", "k"] ["found", "due"] (defScope s__law_alike) := ⟨rfl, rfl, rfl, by decide +kernel, rfl, by decide +kernel, by decide +kernel⟩
abbrev s__law_says : Stmt := topS 22
theorem sc__law_says : FnScope ["told", "due"] ["told", "due"] (defScope s__law_says) := ⟨rfl, rfl, rfl, by decide +kernel, rfl, by decide +kernel, by decide +kernel⟩
abbrev s__law_word : Stmt := topS 23
theorem sc__law_word : FnScope ["e", "kinds", "one"] ["e"] (defScope s__law_word) := ⟨rfl, rfl, rfl, by decide +kernel, rfl, by decide +kernel, by decide +kernel⟩
abbrev s__law_binomial : Stmt := topS 24
theorem sc__law_binomial : FnScope ["long", "ones", "row", "step", "k"] ["long", "ones"] (defScope s__law_binomial) := ⟨rfl, rfl, rfl, by decide +kernel, rfl, by decide +kernel, by decide +kernel⟩
abbrev s__law_bits_for : Stmt := topS 25
theorem sc__law_bits_for : FnScope ["many"] ["many"] (defScope s__law_bits_for) := ⟨rfl, rfl, rfl, by decide +kernel, rfl, by decide +kernel, by decide +kernel⟩
abbrev s__law_rank : Stmt := topS 26
theorem sc__law_rank : FnScope ["bits", "found", "left", "k"] ["bits"] (defScope s__law_rank) := ⟨rfl, rfl, rfl, by decide +kernel, rfl, by decide +kernel, by decide +kernel⟩
abbrev s__law_cells : Stmt := topS 27
theorem sc__law_cells : FnScope ["number", "wide", "found", "step"] ["number", "wide"] (defScope s__law_cells) := ⟨rfl, rfl, rfl, by decide +kernel, rfl, by decide +kernel, by decide +kernel⟩
abbrev s__law_told : Stmt := topS 28
theorem sc__law_told : FnScope ["which", "long", "ones", "rank", "e"] ["which", "long", "ones", "rank"] (defScope s__law_told) := ⟨rfl, rfl, rfl, by decide +kernel, rfl, by decide +kernel, by decide +kernel⟩
abbrev s__law_rows : Stmt := topS 29
theorem sc__law_rows : FnScope ["long", "ones", "row"] ["long", "ones"] (defScope s__law_rows) := ⟨rfl, rfl, rfl, by decide +kernel, rfl, by decide +kernel, by decide +kernel⟩
abbrev s_law : Stmt := topS 30
theorem sc_law : FnScope ["script", "draws", "long", "ones", "rows", "k", "turn", "bits", "rank", "many", "number", "wide", "odd", "value"] ["script"] (defScope s_law) := ⟨rfl, rfl, rfl, by decide +kernel, rfl, by decide +kernel, by decide +kernel⟩
/-! ### what is computed -/
def ch : Nat → Nat → Nat
  | _, 0 => 1
  | 0, _ + 1 => 0
  | n + 1, k + 1 => ch n k + ch n (k + 1)
/-- rows of l bits with o ones -/
def chI (l : Nat) (o : Int) : Nat := if 0 ≤ o then ch l o.toNat else 0
def bf (m : Nat) : Nat := if m ≤ 1 then 0 else (m - 1).log2 + 1
def cnt : List Bool → Nat
  | [] => 0
  | true :: r => cnt r + 1
  | false :: r => cnt r
def rank : List Bool → Nat
  | [] => 0
  | true :: r => ch r.length (cnt r + 1) + rank r
  | false :: r => rank r
def unrank : Nat → Int → Nat → List Bool
  | 0, _, _ => []
  | n + 1, o, r => if r < chI n o then false :: unrank n o r else true :: unrank n (o - 1) (r - chI n o)
def rows : Nat → Int → List (List Bool)
  | 0, o => if o = 0 then [[]] else []
  | n + 1, o => (rows n o).map (false :: ·) ++ (rows n (o - 1)).map (true :: ·)
def bD (b : Bool) : PyData := .int (if b then 1 else 0)
def rowD (bs : List Bool) : PyData := .tuple (bs.map bD)
def cells (n : Nat) : Nat → List PyData
  | 0 => []
  | w + 1 => .int ((n / 2 ^ w % 2 : Nat) : Int) :: cells n w
/-! ### contracts -/
def isNum (d : PyData) (lo hi : Int) : Bool := match d with
  | .int i => decide (lo ≤ i) && decide (i ≤ hi)
  | _ => false
def flatD : PyData → Bool
  | .list _ => false
  | .tuple _ => false
  | .dict _ => false
  | _ => true
def ft_is_number : FT := fun ds P _ => ∃ d lo hi, ds = [d, .int lo, .int hi] ∧ flatD d = true ∧ P (.dat (.bool (isNum d lo hi)))
theorem calm_is_number : Calm ft_is_number := fun _ _ _ h => h
def ft_bits_for : FT := fun ds P _ => ∃ m : Nat, ds = [.int (m : Nat)] ∧ bf m ≤ 10000 ∧ P (.dat (.int (bf m : Nat)))
theorem calm_bits_for : Calm ft_bits_for := fun _ _ _ h => h
def ft_binomial (C : Nat → Addr) : FT := fun ds P X => (∃ (l : Nat) (o : Int), ds = [.int (l : Nat), .int o] ∧ l ≤ 4000 ∧ P (.dat (.int (chI l o : Nat)))) ∨
  (∃ a b, ds = [a, b] ∧ flatD a = true ∧ flatD b = true ∧ (isNum a 0 4000 = false ∨ ∀ i, b ≠ .int i) ∧ X (.ref (C 0)))
def ft_rank_of : FT := fun ds P _ => ∃ bs : List Bool, ds = [rowD bs] ∧ bs.length ≤ 4000 ∧ P (.dat (.int (rank bs : Nat)))
theorem calm_rank_of : Calm ft_rank_of := fun _ _ _ h => h
def ft_bits_of (C : Nat → Addr) : FT := fun ds P X => ∃ (l : Nat) (o : Int) (d : PyData), ds = [.int (l : Nat), .int o, d] ∧ l ≤ 4000 ∧ flatD d = true ∧
  ((∃ r : Nat, d = .int (r : Nat) ∧ r < chI l o ∧ P (.dat (rowD (unrank l o r)))) ∨ (isNum d 0 ((chI l o : Int) - 1) = false ∧ X (.ref (C 2))))
def ft_rank_width : FT := fun ds P _ => ∃ (l : Nat) (o : Int), ds = [.int (l : Nat), .int o] ∧ l ≤ 4000 ∧ P (.dat (.int (bf (chI l o) : Nat)))
theorem calm_rank_width : Calm ft_rank_width := fun _ _ _ h => h
def ft_cells_of : FT := fun ds P _ => ∃ n w : Nat, ds = [.int (n : Nat), .int (w : Nat)] ∧ w ≤ 1000 ∧ P (.dat (.tuple (cells n w)))
theorem calm_cells_of : Calm ft_cells_of := fun _ _ _ h => h
def ft_number_of : FT := fun ds P _ => ∃ n w : Nat, ds = [.tuple (cells n w)] ∧ P (.dat (.int (n % 2 ^ w : Nat)))
theorem calm_number_of : Calm ft_number_of := fun _ _ _ h => h
def scrD (ns : List Int) : PyData := .dict [(.none, .list (ns.map PyData.int))]
def ft_law_draws : FT := fun ds P _ => ∃ ns : List Int, ds = [scrD ns] ∧ ns.length ≤ 63 ∧ P .drw
theorem calm_law_draws : Calm ft_law_draws := fun _ _ _ h => h
mutual
/-- data of that depth at most -/
def depD : PyData → Nat → Bool
  | .dict _, _ => false
  | .list xs, n => decide (xs.length ≤ 100000) && depAll xs n
  | .tuple xs, n => decide (xs.length ≤ 100000) && depAll xs n
  | d, _ => SeqAt.shaped d
def depAll : List PyData → Nat → Bool
  | _, 0 => false
  | [], _ => true
  | x :: r, n + 1 => depD x n && depAll r (n + 1)
end
def ft_law_alike' : Nat → FT
  | 0 => fun _ _ _ => False
  | n + 1 => fun ds P _ => ∃ d, ds = [d, d] ∧ depD d n = true ∧ P (.dat (.bool true))
def ft_law_alike : FT := ft_law_alike' 5
theorem calm_law_alike' : ∀ n : Nat, Calm (ft_law_alike' n)
  | 0 => fun _ _ _ h => h
  | _ + 1 => fun _ _ _ h => h
theorem calm_law_alike : Calm ft_law_alike := fun _ _ _ h => h
def ft_law_says : FT := fun ds P _ => ∃ b, ds = [.bool b, .bool b] ∧ P (.dat (.bool true))
theorem calm_law_says : Calm ft_law_says := fun _ _ _ h => h
def ft_law_binomial : FT := fun ds P _ => ∃ (l : Nat) (o : Int), ds = [.int (l : Nat), .int o] ∧ l ≤ 200 ∧ P (.dat (.int (chI l o : Nat)))
theorem calm_law_binomial : Calm ft_law_binomial := fun _ _ _ h => h
def ft_law_bits_for' : Nat → FT
  | 0 => fun _ _ _ => False
  | n + 1 => fun ds P _ => ∃ m : Nat, ds = [.int (m : Nat)] ∧ bf m ≤ n ∧ P (.dat (.int (bf m : Nat)))
def ft_law_bits_for : FT := ft_law_bits_for' 111
theorem calm_law_bits_for' : ∀ n : Nat, Calm (ft_law_bits_for' n)
  | 0 => fun _ _ _ h => h
  | _ + 1 => fun _ _ _ h => h
theorem calm_law_bits_for : Calm ft_law_bits_for := fun _ _ _ h => h
def ft_law_rank : FT := fun ds P _ => ∃ bs : List Bool, ds = [rowD bs] ∧ bs.length ≤ 200 ∧ P (.dat (.int (rank bs : Nat)))
theorem calm_law_rank : Calm ft_law_rank := fun _ _ _ h => h
def ft_law_cells : FT := fun ds P _ => ∃ n w : Nat, ds = [.int (n : Nat), .int (w : Nat)] ∧ w ≤ 1000 ∧ P (.dat (.tuple (cells n w)))
theorem calm_law_cells : Calm ft_law_cells := fun _ _ _ h => h
def ft_law_told : FT := fun ds P _ => (∃ (l : Nat) (o : Int) (d : PyData), ds = [.int 0, .int (l : Nat), .int o, d] ∧ l ≤ 4000 ∧ P (.dat (.int (chI l o : Nat)))) ∨
  (∃ a b d, ds = [.int 0, a, b, d] ∧ flatD a = true ∧ flatD b = true ∧ (isNum a 0 4000 = false ∨ ∀ i, b ≠ .int i) ∧ P (.dat (.str "range"))) ∨
  (∃ (l : Nat) (o : Int) (r : Nat), ds = [.int 1, .int (l : Nat), .int o, .int (r : Nat)] ∧ l ≤ 4000 ∧ r < chI l o ∧ P (.dat (rowD (unrank l o r)))) ∨
  (∃ (l : Nat) (o : Int) (d : PyData), ds = [.int 1, .int (l : Nat), .int o, d] ∧ l ≤ 4000 ∧ flatD d = true ∧ isNum d 0 ((chI l o : Int) - 1) = false ∧ P (.dat (.str "none")))
theorem calm_law_told : Calm ft_law_told := fun _ _ _ h => h
def ft_law_rows' : Nat → FT
  | 0 => fun _ _ _ => False
  | n + 1 => fun ds P _ => ∃ (l : Nat) (o : Int), ds = [.int (l : Nat), .int o] ∧ l ≤ n ∧ P (.new ((rows l o).map rowD))
def ft_law_rows : FT := ft_law_rows' 9
theorem calm_law_rows' : ∀ n : Nat, Calm (ft_law_rows' n)
  | 0 => fun _ _ _ h => h
  | _ + 1 => fun _ _ _ h => h
theorem calm_law_rows : Calm ft_law_rows := fun _ _ _ h => h
def ft_law : FT := fun ds P _ => ∃ ns : List Int, ds = [scrD ns] ∧ ns.length ≤ 63 ∧ P (.dat (.bool true))

def a_is_number : AS := (aRet (aAndV (aIsi "int" (aVar 0)) (aAndV (aNotV (aIsi "bool" (aVar 0))) (aChain fLe fLe (aVar 1) (aVar 0) (aVar 2)))))
def a_bits_for_1 : AT := (aTB (aOp2 fLt (frz (aOp2 fShl (aC (.int 1)) (aVar 1))) (aVar 0)))
def a_bits_for_2 : AS := (aAug (fun i j => i + j) 1 (aC (.int 1)))
def a_bits_for_r3 : AS := (aRet (toR (aVar 1)))
def a_bits_for : AS := (aSeq (aAsg 1 (toR (aC (.int 0))))
  (aSeq (aWhile a_bits_for_1 a_bits_for_2)
  a_bits_for_r3))
def a_binomial_1 : AS := (aAsg 2 (frzR (aOp2 fDiv (frz (aOp2 fMul (aVar 2) (frz (aOp2 fSub (aVar 0) (aVar 3))))) (frz (aOp2 fAdd (aVar 3) (aC (.int 1)))))))
def a_binomial_r2 : AS := (aRet (toR (aVar 2)))
def a_binomial_r3 : AS := (aSeq (aAsg 2 (toR (aC (.int 1))))
  (aSeq (aFor (aiR1 (aCons (frz (aCB fMin2 (aCons (aVar 1) (aCons (frz (aOp2 fSub (aVar 0) (aVar 1))) aNil)))) aNil)) (agName 3) a_binomial_1)
  a_binomial_r2))
def a_binomial_r4 : AS := (aSeq (aIfS (aNotT (aTB (aChain fLe fLe (aC (.int 0)) (aVar 1) (aVar 0)))) (aRet (toR (aC (.int 0)))) aNext)
  a_binomial_r3)
def a_binomial (C : Nat → Addr) : AS := (aSeq (aIfS (aOrT (aNotT (aTB (aCall ft_is_number (aCons (aVar 0) (aCons (aC (.int 0)) (aCons (aC (.int (4000))) aNil)))))) (aOrT (aNotT (aTB (aIsi "int" (aVar 1)))) (aTB (aIsi "bool" (aVar 1))))) (aRaise (.ref (C 0))) aNext)
  a_binomial_r4)
def a_rank_of_1 (C : Nat → Addr) : AS := (aIfS (aTB (aOp2 fEq (aVar 4) (aC (.int 1)))) (aSeq (aAug (fun i j => i + j) 1 (frz (aCall (ft_binomial C) (aCons (frz (aOp2 fSub (frz (aOp2 fSub (frz (aCB fLen (aCons (aVar 0) aNil))) (aVar 3))) (aC (.int 1)))) (aCons (aVar 2) aNil)))))
  (aAug (fun i j => i - j) 2 (aC (.int 1)))) aNext)
def a_rank_of_r2 : AS := (aRet (toR (aVar 1)))
def a_rank_of (C : Nat → Addr) : AS := (aSeq (aPar 1 2 (aCons (aC (.int 0)) (aCons (frz (aCB fSum (aCons (aVar 0) aNil))) aNil)))
  (aSeq (aFor (aiE (aCons (aVar 0) aNil)) (agTup 2 (agCons (agName 3) (agCons (agName 4) agNil))) (a_rank_of_1 C))
  a_rank_of_r2))
def a_bits_of_1 (C : Nat → Addr) : AS := (aSeq (aAsg 5 (frzR (aCall (ft_binomial C) (aCons (frz (aOp2 fSub (frz (aOp2 fSub (aVar 0) (aVar 4))) (aC (.int 1)))) (aCons (aVar 1) aNil)))))
  (aSeq (aApp 3 (frz (aIf (aTB (aOp2 fLt (aVar 2) (aVar 5))) (toR (aC (.int 0))) (toR (aC (.int 1))))))
  (aIfS (aTB (aOp2 fGe (aVar 2) (aVar 5))) (aSeq (aAug (fun i j => i - j) 2 (aVar 5))
  (aAug (fun i j => i - j) 1 (aC (.int 1)))) aNext)))
def a_bits_of_r2 : AS := (aRet (aCB fTupleOf (aCons (aVar 3) aNil)))
def a_bits_of_r3 (C : Nat → Addr) : AS := (aSeq (aAsg 3 (aLst aNil))
  (aSeq (aFor (aiR1 (aCons (aVar 0) aNil)) (agName 4) (a_bits_of_1 C))
  a_bits_of_r2))
def a_bits_of (C : Nat → Addr) : AS := (aSeq (aIfS (aNotT (aTB (aCall ft_is_number (aCons (aVar 2) (aCons (aC (.int 0)) (aCons (frz (aOp2 fSub (frz (aCall (ft_binomial C) (aCons (aVar 0) (aCons (aVar 1) aNil)))) (aC (.int 1)))) aNil)))))) (aRaise (.ref (C 2))) aNext)
  (a_bits_of_r3 C))
def a_rank_width (C : Nat → Addr) : AS := (aRet (aCall ft_bits_for (aCons (frz (aCall (ft_binomial C) (aCons (aVar 0) (aCons (aVar 1) aNil)))) aNil)))
def a_cells_of_1 : AE := (frz (aOp2 fAnd1 (frz (aOp2 fShr (aVar 0) (aVar 2))) (aC (.int 1))))
def a_cells_of : AS := (aRet (aCB fTupleOf (aCons (frz (aLc (aiR3 (aCons (frz (aOp2 fSub (aVar 1) (aC (.int 1)))) (aCons (frz (aUn fNeg (aC (.int 1)))) (aCons (frz (aUn fNeg (aC (.int 1)))) aNil)))) (agName 2) aYes a_cells_of_1 [2])) aNil)))
def a_number_of_1 : AS := (aAsg 1 (frzR (aOp2 fAdd (frz (aOp2 fMul (aC (.int 2)) (aVar 1))) (aVar 2))))
def a_number_of_r2 : AS := (aRet (toR (aVar 1)))
def a_number_of : AS := (aSeq (aAsg 1 (toR (aC (.int 0))))
  (aSeq (aFor (aiU (aVar 0)) (agName 2) a_number_of_1)
  a_number_of_r2))
def a__law_draws_1 : AS := (aIfS (aTB (aOp2 fGt (aVar 3) (aC (.int 0)))) (aSeq (aApp 1 (frz (aOp2 fMod (frz (aCB fInt (aCons (aVar 3) aNil))) (aC (.int 997)))))
  (aAsg 3 (frzR (aOp2 fDiv (aVar 3) (aC (.int 997)))))) aNext)
def a__law_draws_r2 : AS := (aFor (aiR1 (aCons (aC (.int 60)) aNil)) (agName 5) a__law_draws_1)
def a__law_draws_3 : AS := (aSeq (aAsg 3 (frzR (aCB fAbs (aCons (aVar 2) aNil))))
  (aSeq (aIfS (aTB (aOp2 fLt (aVar 3) (frz (aOp2 fPow (aC (.int 10)) (aC (.int 18)))))) (aSeq (aAsg 4 (frzR (aOp2 fMod (frz (aCB fInt (aCons (frz (aOp2 fAdd (frz (aOp2 fMul (aVar 3) (aC (.int 48271)))) (aC (.int 11)))) aNil))) (aC (.int 2147483647)))))
  (aSeq (aApp 1 (frz (aOp2 fMod (frz (aCB fInt (aCons (frz (aOp2 fAdd (frz (aOp2 fMul (aVar 4) (aC (.int 69621)))) (aVar 3))) aNil))) (aC (.int 2147483629)))))
  (aSeq (aApp 1 (frz (aOp2 fMod (frz (aCB fInt (aCons (frz (aOp2 fAdd (aVar 4) (frz (aOp2 fDiv (aVar 3) (aC (.int 7)))))) aNil))) (aC (.int 1000003)))))
  (aAsg 3 (toR (aC (.int 0))))))) aNext)
  a__law_draws_r2))
def a__law_draws_4 : AS := (aSeq (aAsg 6 (frzR (aOp2 fMod (frz (aCB fInt (aCons (frz (aOp2 fAdd (frz (aOp2 fMul (aVar 6) (aC (.int 48271)))) (aC (.int 69621)))) aNil))) (aC (.int 2147483647)))))
  (aApp 1 (frz (aOp2 fDiv (aVar 6) (aC (.int 5))))))
def a__law_draws_r5 : AS := (aRet (aDrw (aUn fLstRev (aVar 1))))
def a__law_draws_r6 : AS := (aSeq (aFor (aiR1 (aCons (aC (.int 900)) aNil)) (agName 5) a__law_draws_4)
  a__law_draws_r5)
def a__law_draws_r7 : AS := (aSeq (aAsg 6 (toR (aC (.int 1))))
  (aSeq (aIfS (aTB (aOp2 fGt (frz (aCB fLen (aCons (aVar 0) aNil))) (aC (.int 0)))) (aAsg 6 (frzR (aOp2 fAdd (aC (.int 1)) (frz (aCB fAbs (aCons (frz (aOp2 fIx (aVar 0) (aC (.int 0)))) aNil)))))) aNext)
  a__law_draws_r6))
def a__law_draws : AS := (aSeq (aAsg 1 (aLst aNil))
  (aSeq (aFor (aiU (aVar 0)) (agName 2) a__law_draws_3)
  a__law_draws_r7))
def a__law_alike_1 (nn : Nat) : AT := (aNotT (aTB (aCall (ft_law_alike' nn) (aCons (frz (aOp2 fIx (aVar 0) (aVar 2))) (aCons (frz (aOp2 fIx (aVar 1) (aVar 2))) aNil)))))
def a__law_alike_r2 (nn : Nat) : AS := (aRet (aAndV (aOp2 fEq (frz (aCB fLen (aCons (aVar 0) aNil))) (frz (aCB fLen (aCons (aVar 1) aNil)))) (aOp2 fEq (frz (aLc (aiR1 (aCons (frz (aCB fLen (aCons (aVar 1) aNil))) aNil)) (agName 2) (a__law_alike_1 nn) (aVar 2) [2])) (frz (aLst aNil)))))
def a__law_alike_r3 : AS := (aRet (aAndV (aIsi "str" (aVar 0)) (aOp2 fEq (aVar 0) (aVar 1))))
def a__law_alike_r4 : AS := (aSeq (aIfS (aTB (aIsi "int" (aVar 1))) (aRet (aAndV (aIsi "int" (aVar 0)) (aOp2 fEq (aVar 0) (aVar 1)))) aNext)
  a__law_alike_r3)
def a__law_alike_r5 : AS := (aSeq (aIfS (aOrT (aTB (aIsi "bool" (aVar 1))) (aTB (aIsi "bool" (aVar 0)))) (aRet (aAndV (aIsi "bool" (aVar 0)) (aAndV (aIsi "bool" (aVar 1)) (aOp2 fEq (aVar 0) (aVar 1))))) aNext)
  a__law_alike_r4)
def a__law_alike_r6 : AS := (aSeq (aIfS (aTB (aOp2 fIs (aVar 1) (aC .none))) (aRet (aOp2 fIs (aVar 0) (aC .none))) aNext)
  a__law_alike_r5)
def a__law_alike (nn : Nat) : AS := (aSeq (aIfS (aOrT (aTB (aIsi "list" (aVar 1))) (aTB (aIsi "tuple" (aVar 1)))) (aSeq (aIfS (aOrT (aTB (aOp2 fNe (frz (aIsi "list" (aVar 0))) (frz (aIsi "list" (aVar 1))))) (aTB (aOp2 fNe (frz (aIsi "tuple" (aVar 0))) (frz (aIsi "tuple" (aVar 1)))))) (aRet (toR (aC (.bool false)))) aNext)
  (a__law_alike_r2 nn)) aNext)
  a__law_alike_r6)
def a__law_says : AS := (aRet (aAndV (aIsi "bool" (aVar 0)) (aOp2 fEq (aVar 0) (aVar 1))))
def a__law_binomial_1 : AE := (frz (aOp2 fAdd (frz (aOp2 fIx (aVar 2) (aVar 4))) (frz (aOp2 fIx (aVar 2) (frz (aOp2 fAdd (aVar 4) (aC (.int 1))))))))
def a__law_binomial_2 : AS := (aAsg 2 (frzR (aOp2 fAdd (frz (aOp2 fAdd (frz (aLst (aCons (aC (.int 1)) aNil))) (frz (aLc (aiR1 (aCons (frz (aOp2 fSub (frz (aCB fLen (aCons (aVar 2) aNil))) (aC (.int 1)))) aNil)) (agName 4) aYes a__law_binomial_1 [4])))) (frz (aLst (aCons (aC (.int 1)) aNil))))))
def a__law_binomial_r3 : AS := (aRet (aIf (aTB (aChain fLe fLe (aC (.int 0)) (aVar 1) (aVar 0))) (aOp2 fIx (aVar 2) (aVar 1)) (toR (aC (.int 0)))))
def a__law_binomial : AS := (aSeq (aAsg 2 (frzR (aLst (aCons (aC (.int 1)) aNil))))
  (aSeq (aFor (aiR1 (aCons (aVar 0) aNil)) (agName 3) a__law_binomial_2)
  a__law_binomial_r3))
def a__law_bits_for (nn : Nat) : AS := (aRet (aIf (aTB (aOp2 fLt (aVar 0) (aC (.int 2)))) (toR (aC (.int 0))) (aOp2 fAdd (aC (.int 1)) (frz (aCall (ft_law_bits_for' nn) (aCons (frz (aOp2 fDiv (frz (aOp2 fAdd (aVar 0) (aC (.int 1)))) (aC (.int 2)))) aNil))))))
def a__law_rank_1 : AS := (aIfS (aTB (aOp2 fEq (frz (aOp2 fIx (aVar 0) (aVar 3))) (aC (.int 1)))) (aPar 1 2 (aCons (frz (aOp2 fAdd (aVar 1) (frz (aCall ft_law_binomial (aCons (frz (aOp2 fSub (frz (aOp2 fSub (frz (aCB fLen (aCons (aVar 0) aNil))) (aVar 3))) (aC (.int 1)))) (aCons (aVar 2) aNil)))))) (aCons (frz (aOp2 fSub (aVar 2) (aC (.int 1)))) aNil))) aNext)
def a__law_rank_r2 : AS := (aRet (toR (aVar 1)))
def a__law_rank : AS := (aSeq (aPar 1 2 (aCons (aC (.int 0)) (aCons (frz (aCB fSum (aCons (aVar 0) aNil))) aNil)))
  (aSeq (aFor (aiR1 (aCons (frz (aCB fLen (aCons (aVar 0) aNil))) aNil)) (agName 3) a__law_rank_1)
  a__law_rank_r2))
def a__law_cells_1 : AS := (aPar 2 0 (aCons (frz (aOp2 fAdd (frz (aTup (aCons (frz (aOp2 fMod (aVar 0) (aC (.int 2)))) aNil))) (aVar 2))) (aCons (frz (aOp2 fDiv (aVar 0) (aC (.int 2)))) aNil)))
def a__law_cells_r2 : AS := (aRet (toR (aVar 2)))
def a__law_cells : AS := (aSeq (aAsg 2 (aTup aNil))
  (aSeq (aFor (aiR1 (aCons (aVar 1) aNil)) (agName 3) a__law_cells_1)
  a__law_cells_r2))
def a__law_told (C : Nat → Addr) : AS := (aTold C 4 (aRet (aIf (aTB (aOp2 fEq (aVar 0) (aC (.int 0)))) (aCall (ft_binomial C) (aCons (aVar 1) (aCons (aVar 2) aNil))) (aCall (ft_bits_of C) (aCons (aVar 1) (aCons (aVar 2) (aCons (aVar 3) aNil)))))))
def a__law_rows_1 : AE := (frz (aOp2 fAdd (frz (aTup (aCons (aC (.int 0)) aNil))) (aVar 2)))
def a__law_rows_2 : AE := (frz (aOp2 fAdd (frz (aTup (aCons (aC (.int 1)) aNil))) (aVar 2)))
def a__law_rows_r3 (nn : Nat) : AS := (aRet (aOp2 fAdd (frz (aLc (aiU (frz (aCall (ft_law_rows' nn) (aCons (frz (aOp2 fSub (aVar 0) (aC (.int 1)))) (aCons (aVar 1) aNil))))) (agName 2) aYes a__law_rows_1 [2])) (frz (aLc (aiU (frz (aCall (ft_law_rows' nn) (aCons (frz (aOp2 fSub (aVar 0) (aC (.int 1)))) (aCons (frz (aOp2 fSub (aVar 1) (aC (.int 1)))) aNil))))) (agName 2) aYes a__law_rows_2 [2]))))
def a__law_rows (nn : Nat) : AS := (aSeq (aIfS (aTB (aOp2 fEq (aVar 0) (aC (.int 0)))) (aRet (aIf (aTB (aOp2 fEq (aVar 1) (aC (.int 0)))) (aLst (aCons (frz (aTup aNil)) aNil)) (aLst aNil))) aNext)
  (a__law_rows_r3 nn))
def a_law_1 : AS := (aIfS (aNotT (aTB (aCall ft_law_alike (aCons (frz (aLst (aCons (frz (aCall ft_rank_of (aCons (frz (aOp2 fIx (aVar 4) (aVar 5))) aNil))) (aCons (frz (aCall ft_law_told (aCons (aC (.int 1)) (aCons (aVar 2) (aCons (aVar 3) (aCons (aVar 5) aNil)))))) aNil)))) (aCons (frz (aLst (aCons (aVar 5) (aCons (frz (aOp2 fIx (aVar 4) (aVar 5))) aNil)))) aNil))))) (aRet (toR (aC (.bool false)))) aNext)
def a_law_2 : AT := (aTB (aOp2 fNe (frz (aCall ft_law_told (aCons (aC (.int 1)) (aCons (aVar 2) (aCons (aVar 3) (aCons (aVar 13) aNil)))))) (aC (.str "none"))))
def a_law_r3 : AS := (aIfS (aTB (aOp2 fNe (frz (aLc (aiU (frz (aLst (aCons (frz (aUn fNeg (aC (.int 1)))) (aCons (frz (aCB fLen (aCons (aVar 4) aNil))) (aCons (aC .none) (aCons (aC (.bool true)) (aCons (aC (.str "0")) aNil)))))))) (agName 13) a_law_2 (aVar 13) [13])) (frz (aLst aNil)))) (aRet (toR (aC (.bool false)))) aNext)
def a_law_r4 : AS := (aSeq (aFor (aiR1 (aCons (frz (aCB fLen (aCons (aVar 4) aNil))) aNil)) (agName 5) a_law_1)
  a_law_r3)
def a_law_5 : AS := (aSeq (aAsg 4 (frzR (aCall ft_law_rows (aCons (aVar 2) (aCons (aVar 3) aNil)))))
  (aSeq (aIfS (aNotT (aTB (aCall ft_law_alike (aCons (frz (aLst (aCons (frz (aCall ft_law_told (aCons (aC (.int 0)) (aCons (aVar 2) (aCons (aVar 3) (aCons (aC .none) aNil)))))) (aCons (frz (aCall ft_rank_width (aCons (aVar 2) (aCons (aVar 3) aNil)))) aNil)))) (aCons (frz (aLst (aCons (frz (aCB fLen (aCons (aVar 4) aNil))) (aCons (frz (aCall ft_law_bits_for (aCons (frz (aCB fLen (aCons (aVar 4) aNil))) aNil))) aNil)))) aNil))))) (aRet (toR (aC (.bool false)))) aNext)
  a_law_r4))
def a_law_6 : AE := (frz (aCB fInt (aCons (frz (aOp2 fLt (frz (aCallR ft_take (aCons (aVar 1) (aCons (aC (.int 9)) aNil)))) (frz (aOp2 fAdd (aC (.int 1)) (frz (aOp2 fMul (aC (.int 2)) (aVar 6))))))) aNil)))
def a_law_r7 : AS := (aSeq (aPar 10 11 (aCons (frz (aCallR ft_take (aCons (aVar 1) (aCons (frz (aOp2 fPow (aC (.int 10)) (aC (.int 6)))) aNil)))) (aCons (frz (aOp2 fAdd (aC (.int 20)) (frz (aCallR ft_take (aCons (aVar 1) (aCons (aC (.int 9)) aNil)))))) aNil)))
  (aIfS (aNotT (aTB (aCall ft_law_alike (aCons (frz (aLst (aCons (frz (aCall ft_cells_of (aCons (aVar 10) (aCons (aVar 11) aNil)))) (aCons (frz (aCall ft_number_of (aCons (frz (aCall ft_law_cells (aCons (aVar 10) (aCons (aVar 11) aNil)))) aNil))) aNil)))) (aCons (frz (aLst (aCons (frz (aCall ft_law_cells (aCons (aVar 10) (aCons (aVar 11) aNil)))) (aCons (aVar 10) aNil)))) aNil))))) (aRet (toR (aC (.bool false)))) aNext))
def a_law_r8 : AS := (aSeq (aIfS (aOrT (aNotT (aTB (aCall ft_law_alike (aCons (frz (aCall ft_rank_width (aCons (aVar 2) (aCons (aVar 3) aNil)))) (aCons (frz (aCall ft_law_bits_for (aCons (aVar 9) aNil))) aNil))))) (aNotT (aTB (aCall ft_law_says (aCons (frz (aOp2 fGe (frz (aOp2 fShl (aC (.int 1)) (frz (aCall ft_rank_width (aCons (aVar 2) (aCons (aVar 3) aNil)))))) (aVar 9))) (aCons (aC (.bool true)) aNil)))))) (aRet (toR (aC (.bool false)))) aNext)
  a_law_r7)
def a_law_9 : AS := (aSeq (aAsg 2 (frzR (aCallR ft_take (aCons (aVar 1) (aCons (aC (.int 100)) aNil)))))
  (aSeq (aAsg 7 (frzR (aCB fTupleOf (aCons (frz (aLc (aiR1 (aCons (aVar 2) aNil)) (agName 5) aYes a_law_6 [5])) aNil))))
  (aSeq (aAsgT (agTup 2 (agCons (agName 3) (agCons (agName 8) agNil))) (frz (aTup (aCons (frz (aCB fSum (aCons (aVar 7) aNil))) (aCons (frz (aCall ft_law_rank (aCons (aVar 7) aNil))) aNil)))))
  (aSeq (aAsg 9 (frzR (aCall ft_law_binomial (aCons (aVar 2) (aCons (aVar 3) aNil)))))
  (aSeq (aIfS (aOrT (aNotT (aTB (aCall ft_law_alike (aCons (frz (aLst (aCons (frz (aCall ft_rank_of (aCons (aVar 7) aNil))) (aCons (frz (aCall ft_law_told (aCons (aC (.int 1)) (aCons (aVar 2) (aCons (aVar 3) (aCons (aVar 8) aNil)))))) (aCons (frz (aCall ft_law_told (aCons (aC (.int 0)) (aCons (aVar 2) (aCons (aVar 3) (aCons (aC .none) aNil)))))) aNil))))) (aCons (frz (aLst (aCons (aVar 8) (aCons (aVar 7) (aCons (aVar 9) aNil))))) aNil))))) (aNotT (aTB (aChain fLe fLt (aC (.int 0)) (aVar 8) (aVar 9))))) (aRet (toR (aC (.bool false)))) aNext)
  a_law_r8)))))
def a_law_10 : AT := (aNotT (aTB (aCall ft_law_alike (aCons (frz (aCall ft_bits_for (aCons (aVar 9) aNil))) (aCons (frz (aCall ft_law_bits_for (aCons (aVar 9) aNil))) aNil)))))
def a_law_11 : AT := (aTB (aOp2 fNe (frz (aCall ft_law_told (aCons (aC (.int 0)) (aCons (frz (aOp2 fIx (aVar 13) (aC (.int 0)))) (aCons (frz (aOp2 fIx (aVar 13) (aC (.int 1)))) (aCons (aC .none) aNil)))))) (aC (.str "range"))))
def a_law_r12 : AS := (aSeq (aAsg 12 (frzR (aLst (aCons (frz (aTup (aCons (frz (aUn fNeg (aC (.int 1)))) (aCons (aC (.int 0)) aNil)))) (aCons (frz (aTup (aCons (aC (.int 4001)) (aCons (aC (.int 0)) aNil)))) (aCons (frz (aTup (aCons (aC .none) (aCons (aC (.int 0)) aNil)))) (aCons (frz (aTup (aCons (aC (.bool true)) (aCons (aC (.int 0)) aNil)))) (aCons (frz (aTup (aCons (aC (.str "1")) (aCons (aC (.int 0)) aNil)))) (aCons (frz (aTup (aCons (aC (.int 5)) (aCons (aC .none) aNil)))) (aCons (frz (aTup (aCons (aC (.int 5)) (aCons (aC (.bool true)) aNil)))) (aCons (frz (aTup (aCons (aC (.int 5)) (aCons (aC (.str "1")) aNil)))) aNil)))))))))))
  (aRet (aOp2 fEq (frz (aLc (aiU (aVar 12)) (agName 13) a_law_11 (aVar 13) [13])) (frz (aLst aNil)))))
def a_law_r13 (C : Nat → Addr) : AS := (aSeq (aIfS (aNotT (aTB (aCall ft_law_alike (aCons (frz (aLst (aCons (frz (aCall ft_cells_of (aCons (aC (.int 0)) (aCons (aC (.int 0)) aNil)))) (aCons (frz (aCall ft_number_of (aCons (frz (aTup aNil)) aNil))) (aCons (frz (aCall (ft_binomial C) (aCons (aC (.int 4000)) (aCons (aC (.int 1)) aNil)))) (aCons (frz (aCall (ft_binomial C) (aCons (aC (.int 4000)) (aCons (aC (.int 4000)) aNil)))) aNil)))))) (aCons (frz (aLst (aCons (frz (aTup aNil)) (aCons (aC (.int 0)) (aCons (aC (.int 4000)) (aCons (aC (.int 1)) aNil)))))) aNil))))) (aRet (toR (aC (.bool false)))) aNext)
  a_law_r12)
def a_law_r14 (C : Nat → Addr) : AS := (aSeq (aIfS (aTB (aOp2 fNe (frz (aLc (aiU (frz (aOp2 fAdd (frz (aListR2 (aC (.int 1)) (aC (.int 70)))) (frz (aLst (aCons (frz (aOp2 fPow (aC (.int 10)) (aC (.int 6)))) (aCons (frz (aOp2 fPow (aC (.int 2)) (aC (.int 40)))) (aCons (frz (aOp2 fAdd (frz (aOp2 fPow (aC (.int 2)) (aC (.int 40)))) (aC (.int 1)))) aNil)))))))) (agName 9) a_law_10 (aVar 9) [9])) (frz (aLst aNil)))) (aRet (toR (aC (.bool false)))) aNext)
  (a_law_r13 C))
def a_law_r15 (C : Nat → Addr) : AS := (aSeq (aFor (aiR1 (aCons (aC (.int 4)) aNil)) (agName 6) a_law_9)
  (a_law_r14 C))
def a_law (C : Nat → Addr) : AS := (aSeq (aAsg 1 (frzR (aCall ft_law_draws (aCons (aVar 0) aNil))))
  (aSeq (aAsg 2 (frzR (aCallR ft_take (aCons (aVar 1) (aCons (aC (.int 9)) aNil)))))
  (aSeq (aFor (aiR2 (aCons (frz (aUn fNeg (aC (.int 1)))) (aCons (frz (aOp2 fAdd (aVar 2) (aC (.int 2)))) aNil))) (agName 3) a_law_5)
  (a_law_r15 C))))
structure Top (K : PySem.W.Frag) (mg : Str → Option Value) where
  d_is_number : DefF K mg "is_number" s_is_number ["value", "least", "most"]
  d_bits_for : DefF K mg "bits_for" s_bits_for ["many"]
  d_binomial : DefF K mg "binomial" s_binomial ["long", "ones"]
  d_rank_of : DefF K mg "rank_of" s_rank_of ["bits"]
  d_bits_of : DefF K mg "bits_of" s_bits_of ["long", "ones", "rank"]
  d_rank_width : DefF K mg "rank_width" s_rank_width ["long", "ones"]
  d_cells_of : DefF K mg "cells_of" s_cells_of ["number", "width"]
  d_number_of : DefF K mg "number_of" s_number_of ["cells"]
  d__law_draws : DefF K mg "_law_draws" s__law_draws ["script"]
  d__law_take : DefF K mg "_law_take" s__law_take ["draws", "bound"]
  d__law_alike : DefF K mg "_law_alike" s__law_alike ["found", "due"]
  d__law_says : DefF K mg "_law_says" s__law_says ["told", "due"]
  d__law_word : DefF K mg "_law_word" s__law_word ["e"]
  d__law_binomial : DefF K mg "_law_binomial" s__law_binomial ["long", "ones"]
  d__law_bits_for : DefF K mg "_law_bits_for" s__law_bits_for ["many"]
  d__law_rank : DefF K mg "_law_rank" s__law_rank ["bits"]
  d__law_cells : DefF K mg "_law_cells" s__law_cells ["number", "wide"]
  d__law_told : DefF K mg "_law_told" s__law_told ["which", "long", "ones", "rank"]
  d__law_rows : DefF K mg "_law_rows" s__law_rows ["long", "ones"]
  d_law : DefF K mg "law" s_law ["script"]
  t_MOST_LONG : Tok
  g_MOST_LONG : mg "MOST_LONG" = some (.int 4000 t_MOST_LONG)
  n_abs : mg "abs" = none
  n_bool : mg "bool" = none
  n_enumerate : mg "enumerate" = none
  n_int : mg "int" = none
  n_isinstance : mg "isinstance" = none
  n_len : mg "len" = none
  n_list : mg "list" = none
  n_min : mg "min" = none
  n_range : mg "range" = none
  n_reversed : mg "reversed" = none
  n_str : mg "str" = none
  n_sum : mg "sum" = none
  n_tuple : mg "tuple" = none
  C : Nat → Addr
  Bits : Addr
  err : ErrF K mg C [.type "ValueError", .type "Exception", .type "BaseException", .type "object"] "ValueError.__new__" "ValueError.__init__" Bits
section
variable {P : Program} {w : World} {K : PySem.W.Frag} {mg : Str → Option Value} {base : Heap}
theorem q_is_number (T : Top K mg) {k : Nat}  {cdv : Value} {A : Around} {outer : List Env} {s : Shared} {H : Hp} {E : XK} (hr : Room k (A.deeper (envOfC "is_number" (defScope s_is_number) s.heap.objs.size T.d_is_number.f cdv))) :
    QSs (cxB P w K mg base ["value", "least", "most"] "is_number" s_is_number T.d_is_number.f cdv A outer s H E) (WF E) (defBody s_is_number) a_is_number :=
  (qss_one (qs_ret (qr_and (qr_isi (qe_var 0) (by decide +kernel) T.n_isinstance T.n_int) (qr_and (qr_not (qr_isi (qe_var 0) (by decide +kernel) T.n_isinstance T.n_bool)) (qr_one (qr_chain op_le op_le os_cmp os_cmp (qe_var 1) (qe_var 0) (qe_var 2)))))))
theorem q_bits_for (T : Top K mg) {k : Nat}  {cdv : Value} {A : Around} {outer : List Env} {s : Shared} {H : Hp} {E : XK} (hr : Room k (A.deeper (envOfC "bits_for" (defScope s_bits_for) s.heap.objs.size T.d_bits_for.f cdv))) :
    QSs (cxB P w K mg base ["many", "found"] "bits_for" s_bits_for T.d_bits_for.f cdv A outer s H E) (WF E) (defBody s_bits_for) a_bits_for :=
  (qss_cons (qs_set 1 sc_bits_for.nd qe_int.r)
    (qss_cons (qs_while passF (qt_lt (qr_shl qe_int (qe_var 1)).d (qe_var 0)) (qss_one (qs_add 1 sc_bits_for.nd qe_int)))
    (qss_one (qs_ret (qe_var 1).r))))
theorem q_binomial (T : Top K mg) {k : Nat}  {cdv : Value} {A : Around} {outer : List Env} {s : Shared} {H : Hp} {E : XK} (hr : Room k (A.deeper (envOfC "binomial" (defScope s_binomial) s.heap.objs.size T.d_binomial.f cdv))) (o_is_number : FnOk P w K mg base (L2N.CX P w) k T.d_is_number.f T.d_is_number.fd ["value", "least", "most"] (spD K ft_is_number)) :
    QSs (cxB P w K mg base ["long", "ones", "found", "at"] "binomial" s_binomial T.d_binomial.f cdv A outer s H E) (WF E) (defBody s_binomial) (a_binomial T.C) :=
  (qss_cons (qs_if (qw_or (qt_not (qt_val (qr_callP calm_is_number o_is_number hr T.d_is_number.g T.d_is_number.fn.kp T.d_is_number.bd (qa_cons (qe_var 0) (qa_cons qe_int (qa_cons (qe_gint T.g_MOST_LONG) qa_nil)))))) (qw_or (qt_not (qt_val (qr_isi (qe_var 1) (by decide +kernel) T.n_isinstance T.n_int))) (qw_or1 (qt_val (qr_isi (qe_var 1) (by decide +kernel) T.n_isinstance T.n_bool))))).t (qss_one (qs_err 0 T.err takesF)) qss_nil)
    (qss_cons (qs_if (qt_not (qt_chain op_le op_le os_cmp os_cmp qe_int (qe_var 1) (qe_var 0))) (qss_one (qs_ret qe_int.r)) qss_nil)
    (qss_cons (qs_set 2 sc_binomial.nd qe_int.r)
    (qss_cons (qs_for passF (qi_r1 T.n_range (qa_cons (qr_B (call_min2 rfl) bs_min2 (by decide +kernel) T.n_min (qa_cons (qe_var 1) (qa_cons (qr_sub (qe_var 0) (qe_var 1)).d qa_nil))).d qa_nil)) (qg_name 3 sc_binomial.nd) (qss_one (qs_set 2 sc_binomial.nd (qr_div (qr_mul (qe_var 2) (qr_sub (qe_var 0) (qe_var 3)).d).d (qr_add (qe_var 3) qe_int).d).f)))
    (qss_one (qs_ret (qe_var 2).r))))))
theorem q_rank_of (T : Top K mg) {k : Nat}  {cdv : Value} {A : Around} {outer : List Env} {s : Shared} {H : Hp} {E : XK} (hr : Room k (A.deeper (envOfC "rank_of" (defScope s_rank_of) s.heap.objs.size T.d_rank_of.f cdv))) (o_binomial : FnOk P w K mg base (L2N.CX P w) k T.d_binomial.f T.d_binomial.fd ["long", "ones"] (spD K (ft_binomial T.C))) :
    QSs (cxB P w K mg base ["bits", "found", "left", "at", "bit"] "rank_of" s_rank_of T.d_rank_of.f cdv A outer s H E) (WF E) (defBody s_rank_of) (a_rank_of T.C) :=
  (qss_cons (qs_par 1 2 sc_rank_of.nd (qa_cons qe_int (qa_cons (qr_B (call_sumU rfl) bs_sum (by decide +kernel) T.n_sum (qa_cons (qe_var 0) qa_nil)).d qa_nil)))
    (qss_cons (qs_for passF (qi_enum T.n_enumerate (qa_cons (qe_var 0) qa_nil)) (qg_tup (qgs_cons (qg_name 3 sc_rank_of.nd) (qgs_cons (qg_name 4 sc_rank_of.nd) qgs_nil))) (qss_one (qs_if (qt_eq hr (qe_var 4) qe_int) (qss_cons (qs_add 1 sc_rank_of.nd (qr_call o_binomial hr T.d_binomial.g T.d_binomial.fn.kp T.d_binomial.bd takesF (qa_cons (qr_sub (qr_sub (qr_B call_lenU bs_len (by decide +kernel) T.n_len (qa_cons (qe_var 0) qa_nil)).d (qe_var 3)).d qe_int).d (qa_cons (qe_var 2) qa_nil))).d)
    (qss_one (qs_sub 2 sc_rank_of.nd qe_int))) qss_nil)))
    (qss_one (qs_ret (qe_var 1).r))))
theorem q_bits_of (T : Top K mg) {k : Nat}  {cdv : Value} {A : Around} {outer : List Env} {s : Shared} {H : Hp} {E : XK} (hr : Room k (A.deeper (envOfC "bits_of" (defScope s_bits_of) s.heap.objs.size T.d_bits_of.f cdv))) (o_binomial : FnOk P w K mg base (L2N.CX P w) k T.d_binomial.f T.d_binomial.fd ["long", "ones"] (spD K (ft_binomial T.C))) (o_is_number : FnOk P w K mg base (L2N.CX P w) k T.d_is_number.f T.d_is_number.fd ["value", "least", "most"] (spD K ft_is_number)) :
    QSs (cxB P w K mg base ["long", "ones", "rank", "found", "at", "many"] "bits_of" s_bits_of T.d_bits_of.f cdv A outer s H E) (WF E) (defBody s_bits_of) (a_bits_of T.C) :=
  (qss_cons (qs_if (qt_not (qt_val (qr_callP calm_is_number o_is_number hr T.d_is_number.g T.d_is_number.fn.kp T.d_is_number.bd (qa_cons (qe_var 2) (qa_cons qe_int (qa_cons (qr_sub (qr_call o_binomial hr T.d_binomial.g T.d_binomial.fn.kp T.d_binomial.bd takesF (qa_cons (qe_var 0) (qa_cons (qe_var 1) qa_nil))).d qe_int).d qa_nil)))))) (qss_one (qs_err 2 T.err takesF)) qss_nil)
    (qss_cons (qs_set 3 sc_bits_of.nd (qr_lst qa_nil))
    (qss_cons (qs_for passF (qi_r1 T.n_range (qa_cons (qe_var 0) qa_nil)) (qg_name 4 sc_bits_of.nd) (qss_cons (qs_set 5 sc_bits_of.nd (qr_call o_binomial hr T.d_binomial.g T.d_binomial.fn.kp T.d_binomial.bd takesF (qa_cons (qr_sub (qr_sub (qe_var 0) (qe_var 4)).d qe_int).d (qa_cons (qe_var 1) qa_nil))).f)
    (qss_cons (qs_app 3 (qr_if (qt_lt (qe_var 2) (qe_var 5)) qe_int.r qe_int.r).d)
    (qss_one (qs_if (qt_ge (qe_var 2) (qe_var 5)) (qss_cons (qs_sub 2 sc_bits_of.nd (qe_var 5))
    (qss_one (qs_sub 1 sc_bits_of.nd qe_int))) qss_nil)))))
    (qss_one (qs_ret (qr_Ty call_tuple_of bs_tupleOf (by decide +kernel) T.n_tuple (qa_cons (qe_var 3) qa_nil)))))))
theorem q_rank_width (T : Top K mg) {k : Nat}  {cdv : Value} {A : Around} {outer : List Env} {s : Shared} {H : Hp} {E : XK} (hr : Room k (A.deeper (envOfC "rank_width" (defScope s_rank_width) s.heap.objs.size T.d_rank_width.f cdv))) (o_binomial : FnOk P w K mg base (L2N.CX P w) k T.d_binomial.f T.d_binomial.fd ["long", "ones"] (spD K (ft_binomial T.C))) (o_bits_for : FnOk P w K mg base (L2N.CX P w) k T.d_bits_for.f T.d_bits_for.fd ["many"] (spD K ft_bits_for)) :
    QSs (cxB P w K mg base ["long", "ones"] "rank_width" s_rank_width T.d_rank_width.f cdv A outer s H E) (WF E) (defBody s_rank_width) (a_rank_width T.C) :=
  (qss_one (qs_ret (qr_callP calm_bits_for o_bits_for hr T.d_bits_for.g T.d_bits_for.fn.kp T.d_bits_for.bd (qa_cons (qr_call o_binomial hr T.d_binomial.g T.d_binomial.fn.kp T.d_binomial.bd takesF (qa_cons (qe_var 0) (qa_cons (qe_var 1) qa_nil))).d qa_nil))))
theorem q_cells_of (T : Top K mg) {k : Nat}  {cdv : Value} {A : Around} {outer : List Env} {s : Shared} {H : Hp} {E : XK} (hr : Room k (A.deeper (envOfC "cells_of" (defScope s_cells_of) s.heap.objs.size T.d_cells_of.f cdv))) :
    QSs (cxB P w K mg base ["number", "width", "at"] "cells_of" s_cells_of T.d_cells_of.f cdv A outer s H E) (WF E) (defBody s_cells_of) a_cells_of :=
  (qss_one (qs_ret (qr_Ty call_tuple_of bs_tupleOf (by decide +kernel) T.n_tuple (qa_cons (qr_lc (W' := fun _ _ _ _ => False) (own := [("at", 2)]) sc_cells_of.nd (qi_r3 T.n_range (qa_cons (qr_sub (qe_var 1) qe_int).d (qa_cons (qr_neg qe_int).d (qa_cons (qr_neg qe_int).d qa_nil)))) (show BlkOk ["number", "width", "at"] (defScope s_cells_of) _ _ from blk_of (by decide +kernel)) (fun _ => (qg_name 2 sc_cells_of.nd)) (fun _ => qts_nil) (fun _ => (qr_and1 (qr_shr (qe_var 0) (qe_var 2)).d qe_int).d)).d qa_nil))))
theorem q_number_of (T : Top K mg) {k : Nat}  {cdv : Value} {A : Around} {outer : List Env} {s : Shared} {H : Hp} {E : XK} (hr : Room k (A.deeper (envOfC "number_of" (defScope s_number_of) s.heap.objs.size T.d_number_of.f cdv))) :
    QSs (cxB P w K mg base ["cells", "found", "bit"] "number_of" s_number_of T.d_number_of.f cdv A outer s H E) (WF E) (defBody s_number_of) a_number_of :=
  (qss_cons (qs_set 1 sc_number_of.nd qe_int.r)
    (qss_cons (qs_for passF (qi_sq (qe_var 0)) (qg_name 2 sc_number_of.nd) (qss_one (qs_set 1 sc_number_of.nd (qr_add (qr_mul qe_int (qe_var 1)).d (qe_var 2)).f)))
    (qss_one (qs_ret (qe_var 1).r))))
theorem q__law_draws (T : Top K mg) {k : Nat}  {cdv : Value} {A : Around} {outer : List Env} {s : Shared} {H : Hp} {E : XK} (hr : Room k (A.deeper (envOfC "_law_draws" (defScope s__law_draws) s.heap.objs.size T.d__law_draws.f cdv))) :
    QSs (cxB P w K mg base ["script", "draws", "cell", "number", "first", "k", "seed"] "_law_draws" s__law_draws T.d__law_draws.f cdv A outer s H E) (WF E) (defBody s__law_draws) a__law_draws :=
  (qss_cons (qs_set 1 sc__law_draws.nd (qr_lst qa_nil))
    (qss_cons (qs_for passF (qi_sq (qe_var 0)) (qg_name 2 sc__law_draws.nd) (qss_cons (qs_set 3 sc__law_draws.nd (qr_B call_abs bs_abs (by decide +kernel) T.n_abs (qa_cons (qe_var 2) qa_nil)).f)
    (qss_cons (qs_if (qt_lt (qe_var 3) (qr_pow qe_int qe_int).d) (qss_cons (qs_set 4 sc__law_draws.nd (qr_mod (qr_Ty call_int1 bs_int (by decide +kernel) T.n_int (qa_cons (qr_add (qr_mul (qe_var 3) qe_int).d qe_int).d qa_nil)).d qe_int).f)
    (qss_cons (qs_app 1 (qr_mod (qr_Ty call_int1 bs_int (by decide +kernel) T.n_int (qa_cons (qr_add (qr_mul (qe_var 4) qe_int).d (qe_var 3)).d qa_nil)).d qe_int).d)
    (qss_cons (qs_app 1 (qr_mod (qr_Ty call_int1 bs_int (by decide +kernel) T.n_int (qa_cons (qr_add (qe_var 4) (qr_div (qe_var 3) qe_int).d).d qa_nil)).d qe_int).d)
    (qss_one (qs_set 3 sc__law_draws.nd qe_int.r))))) qss_nil)
    (qss_one (qs_for passF (qi_r1 T.n_range (qa_cons qe_int qa_nil)) (qg_name 5 sc__law_draws.nd) (qss_one (qs_if (qt_gt (qe_var 3) qe_int) (qss_cons (qs_app 1 (qr_mod (qr_Ty call_int1 bs_int (by decide +kernel) T.n_int (qa_cons (qe_var 3) qa_nil)).d qe_int).d)
    (qss_one (qs_set 3 sc__law_draws.nd (qr_div (qe_var 3) qe_int).f))) qss_nil)))))))
    (qss_cons (qs_set 6 sc__law_draws.nd qe_int.r)
    (qss_cons (qs_if (qt_gt (qr_B call_lenU bs_len (by decide +kernel) T.n_len (qa_cons (qe_var 0) qa_nil)).d qe_int) (qss_one (qs_set 6 sc__law_draws.nd (qr_add qe_int (qr_B call_abs bs_abs (by decide +kernel) T.n_abs (qa_cons (qr_ix (qe_var 0) qe_int).d qa_nil)).d).f)) qss_nil)
    (qss_cons (qs_for passF (qi_r1 T.n_range (qa_cons qe_int qa_nil)) (qg_name 5 sc__law_draws.nd) (qss_cons (qs_set 6 sc__law_draws.nd (qr_mod (qr_Ty call_int1 bs_int (by decide +kernel) T.n_int (qa_cons (qr_add (qr_mul (qe_var 6) qe_int).d qe_int).d qa_nil)).d qe_int).f)
    (qss_one (qs_app 1 (qr_div (qe_var 6) qe_int).d))))
    (qss_one (qs_ret (qr_lstRev T.n_list T.n_reversed (qe_var 1)).w)))))))
theorem q__law_alike (T : Top K mg) {k : Nat} {nn : Nat}  {cdv : Value} {A : Around} {outer : List Env} {s : Shared} {H : Hp} {E : XK} (hr : Room k (A.deeper (envOfC "_law_alike" (defScope s__law_alike) s.heap.objs.size T.d__law_alike.f cdv))) (o__law_alike : FnOk P w K mg base (L2N.CX P w) k T.d__law_alike.f T.d__law_alike.fd ["found", "due"] (spD K (ft_law_alike' nn))) :
    QSs (cxB P w K mg base ["found", "due", "k"] "_law_alike" s__law_alike T.d__law_alike.f cdv A outer s H E) (WF E) (defBody s__law_alike) (a__law_alike nn) :=
  (qss_cons (qs_if (qw_or (qt_val (qr_isi (qe_var 1) (by decide +kernel) T.n_isinstance T.n_list)) (qw_or1 (qt_val (qr_isi (qe_var 1) (by decide +kernel) T.n_isinstance T.n_tuple)))).t (qss_cons (qs_if (qw_or (qt_ne hr (qr_isi (qe_var 0) (by decide +kernel) T.n_isinstance T.n_list).d (qr_isi (qe_var 1) (by decide +kernel) T.n_isinstance T.n_list).d) (qw_or1 (qt_ne hr (qr_isi (qe_var 0) (by decide +kernel) T.n_isinstance T.n_tuple).d (qr_isi (qe_var 1) (by decide +kernel) T.n_isinstance T.n_tuple).d))).t (qss_one (qs_ret qe_bl.r)) qss_nil)
    (qss_one (qs_ret (qr_and (qr_eq hr (qr_B call_lenU bs_len (by decide +kernel) T.n_len (qa_cons (qe_var 0) qa_nil)).d (qr_B call_lenU bs_len (by decide +kernel) T.n_len (qa_cons (qe_var 1) qa_nil)).d) (qr_one (qr_eq hr (qr_lc (W' := fun _ _ _ _ => False) (own := [("k", 2)]) sc__law_alike.nd (qi_r1 T.n_range (qa_cons (qr_B call_lenU bs_len (by decide +kernel) T.n_len (qa_cons (qe_var 1) qa_nil)).d qa_nil)) (show BlkOk ["found", "due", "k"] (defScope s__law_alike) _ _ from blk_of (by decide +kernel)) (fun _ => (qg_name 2 sc__law_alike.nd)) (fun _ => (qts_one (qt_not (qt_val (qr_callP (calm_law_alike' nn) o__law_alike hr T.d__law_alike.g T.d__law_alike.fn.kp T.d__law_alike.bd (qa_cons (qr_ix (qe_var 0) (qe_var 2)).d (qa_cons (qr_ix (qe_var 1) (qe_var 2)).d qa_nil))))))) (fun _ => (qe_var 2))).d (qr_lst qa_nil).d)))))) qss_nil)
    (qss_cons (qs_if (qt_is (qe_var 1) qe_non) (qss_one (qs_ret (qr_is (qe_var 0) qe_non))) qss_nil)
    (qss_cons (qs_if (qw_or (qt_val (qr_isi (qe_var 1) (by decide +kernel) T.n_isinstance T.n_bool)) (qw_or1 (qt_val (qr_isi (qe_var 0) (by decide +kernel) T.n_isinstance T.n_bool)))).t (qss_one (qs_ret (qr_and (qr_isi (qe_var 0) (by decide +kernel) T.n_isinstance T.n_bool) (qr_and (qr_isi (qe_var 1) (by decide +kernel) T.n_isinstance T.n_bool) (qr_one (qr_eq hr (qe_var 0) (qe_var 1))))))) qss_nil)
    (qss_cons (qs_if (qt_val (qr_isi (qe_var 1) (by decide +kernel) T.n_isinstance T.n_int)) (qss_one (qs_ret (qr_and (qr_isi (qe_var 0) (by decide +kernel) T.n_isinstance T.n_int) (qr_one (qr_eq hr (qe_var 0) (qe_var 1)))))) qss_nil)
    (qss_one (qs_ret (qr_and (qr_isi (qe_var 0) (by decide +kernel) T.n_isinstance T.n_str) (qr_one (qr_eq hr (qe_var 0) (qe_var 1))))))))))
theorem q__law_says (T : Top K mg) {k : Nat}  {cdv : Value} {A : Around} {outer : List Env} {s : Shared} {H : Hp} {E : XK} (hr : Room k (A.deeper (envOfC "_law_says" (defScope s__law_says) s.heap.objs.size T.d__law_says.f cdv))) :
    QSs (cxB P w K mg base ["told", "due"] "_law_says" s__law_says T.d__law_says.f cdv A outer s H E) (WF E) (defBody s__law_says) a__law_says :=
  (qss_one (qs_ret (qr_and (qr_isi (qe_var 0) (by decide +kernel) T.n_isinstance T.n_bool) (qr_one (qr_eq hr (qe_var 0) (qe_var 1))))))
theorem q__law_binomial (T : Top K mg) {k : Nat}  {cdv : Value} {A : Around} {outer : List Env} {s : Shared} {H : Hp} {E : XK} (hr : Room k (A.deeper (envOfC "_law_binomial" (defScope s__law_binomial) s.heap.objs.size T.d__law_binomial.f cdv))) :
    QSs (cxB P w K mg base ["long", "ones", "row", "step", "k"] "_law_binomial" s__law_binomial T.d__law_binomial.f cdv A outer s H E) (WF E) (defBody s__law_binomial) a__law_binomial :=
  (qss_cons (qs_set 2 sc__law_binomial.nd (qr_lst (qa_cons qe_int qa_nil)).f)
    (qss_cons (qs_for passF (qi_r1 T.n_range (qa_cons (qe_var 0) qa_nil)) (qg_name 3 sc__law_binomial.nd) (qss_one (qs_set 2 sc__law_binomial.nd (qr_add (qr_add (qr_lst (qa_cons qe_int qa_nil)).d (qr_lc (W' := fun _ _ _ _ => False) (own := [("k", 4)]) sc__law_binomial.nd (qi_r1 T.n_range (qa_cons (qr_sub (qr_B call_lenU bs_len (by decide +kernel) T.n_len (qa_cons (qe_var 2) qa_nil)).d qe_int).d qa_nil)) (show BlkOk ["long", "ones", "row", "step", "k"] (defScope s__law_binomial) _ _ from blk_of (by decide +kernel)) (fun _ => (qg_name 4 sc__law_binomial.nd)) (fun _ => qts_nil) (fun _ => (qr_add (qr_ix (qe_var 2) (qe_var 4)).d (qr_ix (qe_var 2) (qr_add (qe_var 4) qe_int).d).d).d)).d).d (qr_lst (qa_cons qe_int qa_nil)).d).f)))
    (qss_one (qs_ret (qr_if (qt_chain op_le op_le os_cmp os_cmp qe_int (qe_var 1) (qe_var 0)) (qr_ix (qe_var 2) (qe_var 1)) qe_int.r)))))
theorem q__law_bits_for (T : Top K mg) {k : Nat} {nn : Nat}  {cdv : Value} {A : Around} {outer : List Env} {s : Shared} {H : Hp} {E : XK} (hr : Room k (A.deeper (envOfC "_law_bits_for" (defScope s__law_bits_for) s.heap.objs.size T.d__law_bits_for.f cdv))) (o__law_bits_for : FnOk P w K mg base (L2N.CX P w) k T.d__law_bits_for.f T.d__law_bits_for.fd ["many"] (spD K (ft_law_bits_for' nn))) :
    QSs (cxB P w K mg base ["many"] "_law_bits_for" s__law_bits_for T.d__law_bits_for.f cdv A outer s H E) (WF E) (defBody s__law_bits_for) (a__law_bits_for nn) :=
  (qss_one (qs_ret (qr_if (qt_lt (qe_var 0) qe_int) qe_int.r (qr_add qe_int (qr_callP (calm_law_bits_for' nn) o__law_bits_for hr T.d__law_bits_for.g T.d__law_bits_for.fn.kp T.d__law_bits_for.bd (qa_cons (qr_div (qr_add (qe_var 0) qe_int).d qe_int).d qa_nil)).d))))
theorem q__law_rank (T : Top K mg) {k : Nat}  {cdv : Value} {A : Around} {outer : List Env} {s : Shared} {H : Hp} {E : XK} (hr : Room k (A.deeper (envOfC "_law_rank" (defScope s__law_rank) s.heap.objs.size T.d__law_rank.f cdv))) (o__law_binomial : FnOk P w K mg base (L2N.CX P w) k T.d__law_binomial.f T.d__law_binomial.fd ["long", "ones"] (spD K ft_law_binomial)) :
    QSs (cxB P w K mg base ["bits", "found", "left", "k"] "_law_rank" s__law_rank T.d__law_rank.f cdv A outer s H E) (WF E) (defBody s__law_rank) a__law_rank :=
  (qss_cons (qs_par 1 2 sc__law_rank.nd (qa_cons qe_int (qa_cons (qr_B (call_sumU rfl) bs_sum (by decide +kernel) T.n_sum (qa_cons (qe_var 0) qa_nil)).d qa_nil)))
    (qss_cons (qs_for passF (qi_r1 T.n_range (qa_cons (qr_B call_lenU bs_len (by decide +kernel) T.n_len (qa_cons (qe_var 0) qa_nil)).d qa_nil)) (qg_name 3 sc__law_rank.nd) (qss_one (qs_if (qt_eq hr (qr_ix (qe_var 0) (qe_var 3)).d qe_int) (qss_one (qs_par 1 2 sc__law_rank.nd (qa_cons (qr_add (qe_var 1) (qr_callP calm_law_binomial o__law_binomial hr T.d__law_binomial.g T.d__law_binomial.fn.kp T.d__law_binomial.bd (qa_cons (qr_sub (qr_sub (qr_B call_lenU bs_len (by decide +kernel) T.n_len (qa_cons (qe_var 0) qa_nil)).d (qe_var 3)).d qe_int).d (qa_cons (qe_var 2) qa_nil))).d).d (qa_cons (qr_sub (qe_var 2) qe_int).d qa_nil)))) qss_nil)))
    (qss_one (qs_ret (qe_var 1).r))))
theorem q__law_cells (T : Top K mg) {k : Nat}  {cdv : Value} {A : Around} {outer : List Env} {s : Shared} {H : Hp} {E : XK} (hr : Room k (A.deeper (envOfC "_law_cells" (defScope s__law_cells) s.heap.objs.size T.d__law_cells.f cdv))) :
    QSs (cxB P w K mg base ["number", "wide", "found", "step"] "_law_cells" s__law_cells T.d__law_cells.f cdv A outer s H E) (WF E) (defBody s__law_cells) a__law_cells :=
  (qss_cons (qs_set 2 sc__law_cells.nd (qr_tup qa_nil))
    (qss_cons (qs_for passF (qi_r1 T.n_range (qa_cons (qe_var 1) qa_nil)) (qg_name 3 sc__law_cells.nd) (qss_one (qs_par 2 0 sc__law_cells.nd (qa_cons (qr_add (qr_tup (qa_cons (qr_mod (qe_var 0) qe_int).d qa_nil)).d (qe_var 2)).d (qa_cons (qr_div (qe_var 0) qe_int).d qa_nil)))))
    (qss_one (qs_ret (qe_var 2).r))))
theorem q__law_told (T : Top K mg) {k : Nat}  {cdv : Value} {A : Around} {outer : List Env} {s : Shared} {H : Hp} {E : XK} (hr : Room k (A.deeper (envOfC "_law_told" (defScope s__law_told) s.heap.objs.size T.d__law_told.f cdv))) (o_binomial : FnOk P w K mg base (L2N.CX P w) k T.d_binomial.f T.d_binomial.fd ["long", "ones"] (spD K (ft_binomial T.C))) (o_bits_of : FnOk P w K mg base (L2N.CX P w) k T.d_bits_of.f T.d_bits_of.fd ["long", "ones", "rank"] (spD K (ft_bits_of T.C))) (o__law_word : FnW P w K mg base k T.d__law_word.f T.d__law_word.fd T.C) :
    QSs (cxB P w K mg base ["which", "long", "ones", "rank", "e"] "_law_told" s__law_told T.d__law_told.f cdv A outer s H E) (WF E) (defBody s__law_told) (a__law_told T.C) :=
  (qss_one (qs_told 4 rfl rfl sc__law_told.nd takesF o__law_word hr T.d__law_word.g T.d__law_word.fn.kp T.d__law_word.bd T.err.gb T.err.cat (fun W pn xe tk ps => (qss_one (qs_ret (qr_if (qt_eq hr (qe_var 0) qe_int) (qr_call o_binomial hr T.d_binomial.g T.d_binomial.fn.kp T.d_binomial.bd tk (qa_cons (qe_var 1) (qa_cons (qe_var 2) qa_nil))) (qr_call o_bits_of hr T.d_bits_of.g T.d_bits_of.fn.kp T.d_bits_of.bd tk (qa_cons (qe_var 1) (qa_cons (qe_var 2) (qa_cons (qe_var 3) qa_nil))))))))))
theorem q__law_rows (T : Top K mg) {k : Nat} {nn : Nat}  {cdv : Value} {A : Around} {outer : List Env} {s : Shared} {H : Hp} {E : XK} (hr : Room k (A.deeper (envOfC "_law_rows" (defScope s__law_rows) s.heap.objs.size T.d__law_rows.f cdv))) (o__law_rows : FnOk P w K mg base (L2N.CX P w) k T.d__law_rows.f T.d__law_rows.fd ["long", "ones"] (spD K (ft_law_rows' nn))) :
    QSs (cxB P w K mg base ["long", "ones", "row"] "_law_rows" s__law_rows T.d__law_rows.f cdv A outer s H E) (WF E) (defBody s__law_rows) (a__law_rows nn) :=
  (qss_cons (qs_if (qt_eq hr (qe_var 0) qe_int) (qss_one (qs_ret (qr_if (qt_eq hr (qe_var 1) qe_int) (qr_lst (qa_cons (qr_tup qa_nil).d qa_nil)) (qr_lst qa_nil)))) qss_nil)
    (qss_one (qs_ret (qr_add (qr_lc (W' := fun _ _ _ _ => False) (own := [("row", 2)]) sc__law_rows.nd (qi_sq (qr_callP (calm_law_rows' nn) o__law_rows hr T.d__law_rows.g T.d__law_rows.fn.kp T.d__law_rows.bd (qa_cons (qr_sub (qe_var 0) qe_int).d (qa_cons (qe_var 1) qa_nil))).d) (show BlkOk ["long", "ones", "row"] (defScope s__law_rows) _ _ from blk_of (by decide +kernel)) (fun _ => (qg_name 2 sc__law_rows.nd)) (fun _ => qts_nil) (fun _ => (qr_add (qr_tup (qa_cons qe_int qa_nil)).d (qe_var 2)).d)).d (qr_lc (W' := fun _ _ _ _ => False) (own := [("row", 2)]) sc__law_rows.nd (qi_sq (qr_callP (calm_law_rows' nn) o__law_rows hr T.d__law_rows.g T.d__law_rows.fn.kp T.d__law_rows.bd (qa_cons (qr_sub (qe_var 0) qe_int).d (qa_cons (qr_sub (qe_var 1) qe_int).d qa_nil))).d) (show BlkOk ["long", "ones", "row"] (defScope s__law_rows) _ _ from blk_of (by decide +kernel)) (fun _ => (qg_name 2 sc__law_rows.nd)) (fun _ => qts_nil) (fun _ => (qr_add (qr_tup (qa_cons qe_int qa_nil)).d (qe_var 2)).d)).d))))
theorem q_law (T : Top K mg) {k : Nat}  {cdv : Value} {A : Around} {outer : List Env} {s : Shared} {H : Hp} {E : XK} (hr : Room k (A.deeper (envOfC "law" (defScope s_law) s.heap.objs.size T.d_law.f cdv))) (o__law_draws : FnOk P w K mg base (L2N.CX P w) k T.d__law_draws.f T.d__law_draws.fd ["script"] (spD K ft_law_draws)) (o__law_take : FnOk P w K mg base (L2N.CX P w) k T.d__law_take.f T.d__law_take.fd ["draws", "bound"] (spR K ft_take)) (o__law_rows : FnOk P w K mg base (L2N.CX P w) k T.d__law_rows.f T.d__law_rows.fd ["long", "ones"] (spD K ft_law_rows)) (o__law_bits_for : FnOk P w K mg base (L2N.CX P w) k T.d__law_bits_for.f T.d__law_bits_for.fd ["many"] (spD K ft_law_bits_for)) (o_rank_width : FnOk P w K mg base (L2N.CX P w) k T.d_rank_width.f T.d_rank_width.fd ["long", "ones"] (spD K ft_rank_width)) (o__law_told : FnOk P w K mg base (L2N.CX P w) k T.d__law_told.f T.d__law_told.fd ["which", "long", "ones", "rank"] (spD K ft_law_told)) (o__law_alike : FnOk P w K mg base (L2N.CX P w) k T.d__law_alike.f T.d__law_alike.fd ["found", "due"] (spD K ft_law_alike)) (o_rank_of : FnOk P w K mg base (L2N.CX P w) k T.d_rank_of.f T.d_rank_of.fd ["bits"] (spD K ft_rank_of)) (o__law_rank : FnOk P w K mg base (L2N.CX P w) k T.d__law_rank.f T.d__law_rank.fd ["bits"] (spD K ft_law_rank)) (o__law_binomial : FnOk P w K mg base (L2N.CX P w) k T.d__law_binomial.f T.d__law_binomial.fd ["long", "ones"] (spD K ft_law_binomial)) (o__law_says : FnOk P w K mg base (L2N.CX P w) k T.d__law_says.f T.d__law_says.fd ["told", "due"] (spD K ft_law_says)) (o__law_cells : FnOk P w K mg base (L2N.CX P w) k T.d__law_cells.f T.d__law_cells.fd ["number", "wide"] (spD K ft_law_cells)) (o_number_of : FnOk P w K mg base (L2N.CX P w) k T.d_number_of.f T.d_number_of.fd ["cells"] (spD K ft_number_of)) (o_cells_of : FnOk P w K mg base (L2N.CX P w) k T.d_cells_of.f T.d_cells_of.fd ["number", "width"] (spD K ft_cells_of)) (o_bits_for : FnOk P w K mg base (L2N.CX P w) k T.d_bits_for.f T.d_bits_for.fd ["many"] (spD K ft_bits_for)) (o_binomial : FnOk P w K mg base (L2N.CX P w) k T.d_binomial.f T.d_binomial.fd ["long", "ones"] (spD K (ft_binomial T.C))) :
    QSs (cxB P w K mg base ["script", "draws", "long", "ones", "rows", "k", "turn", "bits", "rank", "many", "number", "wide", "odd", "value"] "law" s_law T.d_law.f cdv A outer s H E) (WF E) (defBody s_law) (a_law T.C) :=
  (qss_cons (qs_set 1 sc_law.nd (qr_callP calm_law_draws o__law_draws hr T.d__law_draws.g T.d__law_draws.fn.kp T.d__law_draws.bd (qa_cons (qe_var 0) qa_nil)).f)
    (qss_cons (qs_set 2 sc_law.nd (qr_callR calm_take o__law_take hr T.d__law_take.g T.d__law_take.fn.kp T.d__law_take.bd (qa_cons (qe_var 1) (qa_cons qe_int qa_nil))).f)
    (qss_cons (qs_for passF (qi_r2 T.n_range (qa_cons (qr_neg qe_int).d (qa_cons (qr_add (qe_var 2) qe_int).d qa_nil))) (qg_name 3 sc_law.nd) (qss_cons (qs_set 4 sc_law.nd (qr_callP calm_law_rows o__law_rows hr T.d__law_rows.g T.d__law_rows.fn.kp T.d__law_rows.bd (qa_cons (qe_var 2) (qa_cons (qe_var 3) qa_nil))).f)
    (qss_cons (qs_if (qt_not (qt_val (qr_callP calm_law_alike o__law_alike hr T.d__law_alike.g T.d__law_alike.fn.kp T.d__law_alike.bd (qa_cons (qr_lst (qa_cons (qr_callP calm_law_told o__law_told hr T.d__law_told.g T.d__law_told.fn.kp T.d__law_told.bd (qa_cons qe_int (qa_cons (qe_var 2) (qa_cons (qe_var 3) (qa_cons qe_non qa_nil))))).d (qa_cons (qr_callP calm_rank_width o_rank_width hr T.d_rank_width.g T.d_rank_width.fn.kp T.d_rank_width.bd (qa_cons (qe_var 2) (qa_cons (qe_var 3) qa_nil))).d qa_nil))).d (qa_cons (qr_lst (qa_cons (qr_B call_lenU bs_len (by decide +kernel) T.n_len (qa_cons (qe_var 4) qa_nil)).d (qa_cons (qr_callP calm_law_bits_for o__law_bits_for hr T.d__law_bits_for.g T.d__law_bits_for.fn.kp T.d__law_bits_for.bd (qa_cons (qr_B call_lenU bs_len (by decide +kernel) T.n_len (qa_cons (qe_var 4) qa_nil)).d qa_nil)).d qa_nil))).d qa_nil))))) (qss_one (qs_ret qe_bl.r)) qss_nil)
    (qss_cons (qs_for passF (qi_r1 T.n_range (qa_cons (qr_B call_lenU bs_len (by decide +kernel) T.n_len (qa_cons (qe_var 4) qa_nil)).d qa_nil)) (qg_name 5 sc_law.nd) (qss_one (qs_if (qt_not (qt_val (qr_callP calm_law_alike o__law_alike hr T.d__law_alike.g T.d__law_alike.fn.kp T.d__law_alike.bd (qa_cons (qr_lst (qa_cons (qr_callP calm_rank_of o_rank_of hr T.d_rank_of.g T.d_rank_of.fn.kp T.d_rank_of.bd (qa_cons (qr_ix (qe_var 4) (qe_var 5)).d qa_nil)).d (qa_cons (qr_callP calm_law_told o__law_told hr T.d__law_told.g T.d__law_told.fn.kp T.d__law_told.bd (qa_cons qe_int (qa_cons (qe_var 2) (qa_cons (qe_var 3) (qa_cons (qe_var 5) qa_nil))))).d qa_nil))).d (qa_cons (qr_lst (qa_cons (qe_var 5) (qa_cons (qr_ix (qe_var 4) (qe_var 5)).d qa_nil))).d qa_nil))))) (qss_one (qs_ret qe_bl.r)) qss_nil)))
    (qss_one (qs_if (qt_ne hr (qr_lc (W' := fun _ _ _ _ => False) (own := [("value", 13)]) sc_law.nd (qi_sq (qr_lst (qa_cons (qr_neg qe_int).d (qa_cons (qr_B call_lenU bs_len (by decide +kernel) T.n_len (qa_cons (qe_var 4) qa_nil)).d (qa_cons qe_non (qa_cons qe_bl (qa_cons qe_str qa_nil)))))).d) (show BlkOk ["script", "draws", "long", "ones", "rows", "k", "turn", "bits", "rank", "many", "number", "wide", "odd", "value"] (defScope s_law) _ _ from blk_of (by decide +kernel)) (fun _ => (qg_name 13 sc_law.nd)) (fun _ => (qts_one (qt_ne hr (qr_callP calm_law_told o__law_told hr T.d__law_told.g T.d__law_told.fn.kp T.d__law_told.bd (qa_cons qe_int (qa_cons (qe_var 2) (qa_cons (qe_var 3) (qa_cons (qe_var 13) qa_nil))))).d qe_str))) (fun _ => (qe_var 13))).d (qr_lst qa_nil).d) (qss_one (qs_ret qe_bl.r)) qss_nil))))))
    (qss_cons (qs_for passF (qi_r1 T.n_range (qa_cons qe_int qa_nil)) (qg_name 6 sc_law.nd) (qss_cons (qs_set 2 sc_law.nd (qr_callR calm_take o__law_take hr T.d__law_take.g T.d__law_take.fn.kp T.d__law_take.bd (qa_cons (qe_var 1) (qa_cons qe_int qa_nil))).f)
    (qss_cons (qs_set 7 sc_law.nd (qr_Ty call_tuple_of bs_tupleOf (by decide +kernel) T.n_tuple (qa_cons (qr_lc (W' := fun _ _ _ _ => False) (own := [("k", 5)]) sc_law.nd (qi_r1 T.n_range (qa_cons (qe_var 2) qa_nil)) (show BlkOk ["script", "draws", "long", "ones", "rows", "k", "turn", "bits", "rank", "many", "number", "wide", "odd", "value"] (defScope s_law) _ _ from blk_of (by decide +kernel)) (fun _ => (qg_name 5 sc_law.nd)) (fun _ => qts_nil) (fun _ => (qr_Ty call_int1 bs_int (by decide +kernel) T.n_int (qa_cons (qr_lt (qr_callR calm_take o__law_take hr T.d__law_take.g T.d__law_take.fn.kp T.d__law_take.bd (qa_cons (qe_var 1) (qa_cons qe_int qa_nil))).d (qr_add qe_int (qr_mul qe_int (qe_var 6)).d).d).d qa_nil)).d)).d qa_nil)).f)
    (qss_cons (qs_asgT (qr_tup (qa_cons (qr_B (call_sumU rfl) bs_sum (by decide +kernel) T.n_sum (qa_cons (qe_var 7) qa_nil)).d (qa_cons (qr_callP calm_law_rank o__law_rank hr T.d__law_rank.g T.d__law_rank.fn.kp T.d__law_rank.bd (qa_cons (qe_var 7) qa_nil)).d qa_nil))).d (qg_tup (qgs_cons (qg_name 3 sc_law.nd) (qgs_cons (qg_name 8 sc_law.nd) qgs_nil))))
    (qss_cons (qs_set 9 sc_law.nd (qr_callP calm_law_binomial o__law_binomial hr T.d__law_binomial.g T.d__law_binomial.fn.kp T.d__law_binomial.bd (qa_cons (qe_var 2) (qa_cons (qe_var 3) qa_nil))).f)
    (qss_cons (qs_if (qw_or (qt_not (qt_val (qr_callP calm_law_alike o__law_alike hr T.d__law_alike.g T.d__law_alike.fn.kp T.d__law_alike.bd (qa_cons (qr_lst (qa_cons (qr_callP calm_rank_of o_rank_of hr T.d_rank_of.g T.d_rank_of.fn.kp T.d_rank_of.bd (qa_cons (qe_var 7) qa_nil)).d (qa_cons (qr_callP calm_law_told o__law_told hr T.d__law_told.g T.d__law_told.fn.kp T.d__law_told.bd (qa_cons qe_int (qa_cons (qe_var 2) (qa_cons (qe_var 3) (qa_cons (qe_var 8) qa_nil))))).d (qa_cons (qr_callP calm_law_told o__law_told hr T.d__law_told.g T.d__law_told.fn.kp T.d__law_told.bd (qa_cons qe_int (qa_cons (qe_var 2) (qa_cons (qe_var 3) (qa_cons qe_non qa_nil))))).d qa_nil)))).d (qa_cons (qr_lst (qa_cons (qe_var 8) (qa_cons (qe_var 7) (qa_cons (qe_var 9) qa_nil)))).d qa_nil))))) (qw_or1 (qt_not (qt_chain op_le op_lt os_cmp os_cmp qe_int (qe_var 8) (qe_var 9))))).t (qss_one (qs_ret qe_bl.r)) qss_nil)
    (qss_cons (qs_if (qw_or (qt_not (qt_val (qr_callP calm_law_alike o__law_alike hr T.d__law_alike.g T.d__law_alike.fn.kp T.d__law_alike.bd (qa_cons (qr_callP calm_rank_width o_rank_width hr T.d_rank_width.g T.d_rank_width.fn.kp T.d_rank_width.bd (qa_cons (qe_var 2) (qa_cons (qe_var 3) qa_nil))).d (qa_cons (qr_callP calm_law_bits_for o__law_bits_for hr T.d__law_bits_for.g T.d__law_bits_for.fn.kp T.d__law_bits_for.bd (qa_cons (qe_var 9) qa_nil)).d qa_nil))))) (qw_or1 (qt_not (qt_val (qr_callP calm_law_says o__law_says hr T.d__law_says.g T.d__law_says.fn.kp T.d__law_says.bd (qa_cons (qr_ge (qr_shl qe_int (qr_callP calm_rank_width o_rank_width hr T.d_rank_width.g T.d_rank_width.fn.kp T.d_rank_width.bd (qa_cons (qe_var 2) (qa_cons (qe_var 3) qa_nil))).d).d (qe_var 9)).d (qa_cons qe_bl qa_nil))))))).t (qss_one (qs_ret qe_bl.r)) qss_nil)
    (qss_cons (qs_par 10 11 sc_law.nd (qa_cons (qr_callR calm_take o__law_take hr T.d__law_take.g T.d__law_take.fn.kp T.d__law_take.bd (qa_cons (qe_var 1) (qa_cons (qr_pow qe_int qe_int).d qa_nil))).d (qa_cons (qr_add qe_int (qr_callR calm_take o__law_take hr T.d__law_take.g T.d__law_take.fn.kp T.d__law_take.bd (qa_cons (qe_var 1) (qa_cons qe_int qa_nil))).d).d qa_nil)))
    (qss_one (qs_if (qt_not (qt_val (qr_callP calm_law_alike o__law_alike hr T.d__law_alike.g T.d__law_alike.fn.kp T.d__law_alike.bd (qa_cons (qr_lst (qa_cons (qr_callP calm_cells_of o_cells_of hr T.d_cells_of.g T.d_cells_of.fn.kp T.d_cells_of.bd (qa_cons (qe_var 10) (qa_cons (qe_var 11) qa_nil))).d (qa_cons (qr_callP calm_number_of o_number_of hr T.d_number_of.g T.d_number_of.fn.kp T.d_number_of.bd (qa_cons (qr_callP calm_law_cells o__law_cells hr T.d__law_cells.g T.d__law_cells.fn.kp T.d__law_cells.bd (qa_cons (qe_var 10) (qa_cons (qe_var 11) qa_nil))).d qa_nil)).d qa_nil))).d (qa_cons (qr_lst (qa_cons (qr_callP calm_law_cells o__law_cells hr T.d__law_cells.g T.d__law_cells.fn.kp T.d__law_cells.bd (qa_cons (qe_var 10) (qa_cons (qe_var 11) qa_nil))).d (qa_cons (qe_var 10) qa_nil))).d qa_nil))))) (qss_one (qs_ret qe_bl.r)) qss_nil))))))))))
    (qss_cons (qs_if (qt_ne hr (qr_lc (W' := fun _ _ _ _ => False) (own := [("many", 9)]) sc_law.nd (qi_sq (qr_add (qr_listR2 T.n_list T.n_range qe_int qe_int).d (qr_lst (qa_cons (qr_pow qe_int qe_int).d (qa_cons (qr_pow qe_int qe_int).d (qa_cons (qr_add (qr_pow qe_int qe_int).d qe_int).d qa_nil)))).d).d) (show BlkOk ["script", "draws", "long", "ones", "rows", "k", "turn", "bits", "rank", "many", "number", "wide", "odd", "value"] (defScope s_law) _ _ from blk_of (by decide +kernel)) (fun _ => (qg_name 9 sc_law.nd)) (fun _ => (qts_one (qt_not (qt_val (qr_callP calm_law_alike o__law_alike hr T.d__law_alike.g T.d__law_alike.fn.kp T.d__law_alike.bd (qa_cons (qr_callP calm_bits_for o_bits_for hr T.d_bits_for.g T.d_bits_for.fn.kp T.d_bits_for.bd (qa_cons (qe_var 9) qa_nil)).d (qa_cons (qr_callP calm_law_bits_for o__law_bits_for hr T.d__law_bits_for.g T.d__law_bits_for.fn.kp T.d__law_bits_for.bd (qa_cons (qe_var 9) qa_nil)).d qa_nil))))))) (fun _ => (qe_var 9))).d (qr_lst qa_nil).d) (qss_one (qs_ret qe_bl.r)) qss_nil)
    (qss_cons (qs_if (qt_not (qt_val (qr_callP calm_law_alike o__law_alike hr T.d__law_alike.g T.d__law_alike.fn.kp T.d__law_alike.bd (qa_cons (qr_lst (qa_cons (qr_callP calm_cells_of o_cells_of hr T.d_cells_of.g T.d_cells_of.fn.kp T.d_cells_of.bd (qa_cons qe_int (qa_cons qe_int qa_nil))).d (qa_cons (qr_callP calm_number_of o_number_of hr T.d_number_of.g T.d_number_of.fn.kp T.d_number_of.bd (qa_cons (qr_tup qa_nil).d qa_nil)).d (qa_cons (qr_call o_binomial hr T.d_binomial.g T.d_binomial.fn.kp T.d_binomial.bd takesF (qa_cons qe_int (qa_cons qe_int qa_nil))).d (qa_cons (qr_call o_binomial hr T.d_binomial.g T.d_binomial.fn.kp T.d_binomial.bd takesF (qa_cons qe_int (qa_cons qe_int qa_nil))).d qa_nil))))).d (qa_cons (qr_lst (qa_cons (qr_tup qa_nil).d (qa_cons qe_int (qa_cons qe_int (qa_cons qe_int qa_nil))))).d qa_nil))))) (qss_one (qs_ret qe_bl.r)) qss_nil)
    (qss_cons (qs_set 12 sc_law.nd (qr_lst (qa_cons (qr_tup (qa_cons (qr_neg qe_int).d (qa_cons qe_int qa_nil))).d (qa_cons (qr_tup (qa_cons qe_int (qa_cons qe_int qa_nil))).d (qa_cons (qr_tup (qa_cons qe_non (qa_cons qe_int qa_nil))).d (qa_cons (qr_tup (qa_cons qe_bl (qa_cons qe_int qa_nil))).d (qa_cons (qr_tup (qa_cons qe_str (qa_cons qe_int qa_nil))).d (qa_cons (qr_tup (qa_cons qe_int (qa_cons qe_non qa_nil))).d (qa_cons (qr_tup (qa_cons qe_int (qa_cons qe_bl qa_nil))).d (qa_cons (qr_tup (qa_cons qe_int (qa_cons qe_str qa_nil))).d qa_nil))))))))).f)
    (qss_one (qs_ret (qr_eq hr (qr_lc (W' := fun _ _ _ _ => False) (own := [("value", 13)]) sc_law.nd (qi_sq (qe_var 12)) (show BlkOk ["script", "draws", "long", "ones", "rows", "k", "turn", "bits", "rank", "many", "number", "wide", "odd", "value"] (defScope s_law) _ _ from blk_of (by decide +kernel)) (fun _ => (qg_name 13 sc_law.nd)) (fun _ => (qts_one (qt_ne hr (qr_callP calm_law_told o__law_told hr T.d__law_told.g T.d__law_told.fn.kp T.d__law_told.bd (qa_cons qe_int (qa_cons (qr_ix (qe_var 13) qe_int).d (qa_cons (qr_ix (qe_var 13) qe_int).d (qa_cons qe_non qa_nil))))).d qe_str))) (fun _ => (qe_var 13))).d (qr_lst qa_nil).d))))))))))
end
end K15
namespace K15
open PySem PySem.Spec PyProof.Rows L2 AB
/-! ### numbers -/
theorem ch_zero (n : Nat) : ch n 0 = 1 := by cases n <;> rfl
theorem ch_gt : ∀ (n k : Nat), n < k → ch n k = 0
  | 0, 0, h => by omega
  | 0, k + 1, _ => rfl
  | n + 1, 0, h => by omega
  | n + 1, k + 1, h => by
    show ch n k + ch n (k + 1) = 0
    rw [ch_gt n k (by omega), ch_gt n (k + 1) (by omega)]
theorem ch_self : ∀ n : Nat, ch n n = 1
  | 0 => rfl
  | n + 1 => by
    show ch n n + ch n (n + 1) = 1
    rw [ch_self n, ch_gt n (n + 1) (by omega)]
theorem ch_step : ∀ (n k : Nat), (k + 1) * ch n (k + 1) = (n - k) * ch n k
  | 0, k => by
    show (k + 1) * 0 = (0 - k) * _
    rw [Nat.zero_sub, Nat.zero_mul, Nat.mul_zero]
  | n + 1, 0 => by
    have ih := ch_step n 0
    show (0 + 1) * (ch n 0 + ch n 1) = (n + 1 - 0) * 1
    rw [ch_zero] at ih ⊢
    have e : (0 + 1) * (1 + ch n 1) = 1 + (0 + 1) * ch n (0 + 1) := by
      rw [Nat.zero_add, Nat.one_mul, Nat.one_mul]
    rw [e, ih]
    omega
  | n + 1, k + 1 => by
    have i1 := ch_step n (k + 1)
    have i0 := ch_step n k
    show (k + 1 + 1) * (ch n (k + 1) + ch n (k + 1 + 1)) = (n + 1 - (k + 1)) * (ch n k + ch n (k + 1))
    rw [Nat.mul_add, i1, Nat.add_sub_add_right, Nat.mul_add, ← i0]
    by_cases h : k + 1 ≤ n
    · rw [← Nat.add_mul, ← Nat.add_mul]
      congr 1
      omega
    · rw [ch_gt n (k + 1) (by omega)]
      omega
theorem ch_symm : ∀ (n k : Nat), k ≤ n → ch n (n - k) = ch n k
  | 0, k, h => by
    have e : k = 0 := by omega
    subst e
    rfl
  | n + 1, 0, _ => by
    rw [Nat.sub_zero, ch_self, ch_zero]
  | n + 1, k + 1, h => by
    rw [Nat.add_sub_add_right]
    by_cases e : k = n
    · subst e
      rw [Nat.sub_self, ch_zero, ch_self]
    · obtain ⟨j, hj⟩ : ∃ j, n - k = j + 1 := ⟨n - k - 1, by omega⟩
      have h1 := ch_symm n (k + 1) (by omega)
      have h2 := ch_symm n k (by omega)
      have ej : n - (k + 1) = j := by omega
      rw [ej] at h1
      rw [hj] at h2
      rw [hj]
      show ch n j + ch n (j + 1) = ch n k + ch n (k + 1)
      rw [h1, h2, Nat.add_comm]
theorem ch_le : ∀ (n k : Nat), ch n k ≤ 2 ^ n
  | 0, 0 => Nat.le_refl _
  | 0, _ + 1 => Nat.zero_le _
  | n + 1, 0 => by
    rw [ch_zero]
    exact Nat.one_le_two_pow
  | n + 1, k + 1 => by
    show ch n k + ch n (k + 1) ≤ _
    have h1 := ch_le n k
    have h2 := ch_le n (k + 1)
    rw [Nat.pow_succ]
    omega
theorem chI_neg {l : Nat} {o : Int} (h : o < 0) : chI l o = 0 := by
  unfold chI
  rw [if_neg (by omega)]
theorem chI_nat {l k : Nat} : chI l (k : Int) = ch l k := by
  unfold chI
  rw [if_pos (by omega), Int.toNat_natCast]
theorem chI_succ (n : Nat) (o : Int) : chI (n + 1) o = chI n o + chI n (o - 1) := by
  by_cases h : o < 0
  · rw [chI_neg h, chI_neg h, chI_neg (by omega)]
  · obtain ⟨k, rfl⟩ : ∃ k : Nat, o = (k : Int) := ⟨o.toNat, by omega⟩
    cases k with
    | zero =>
      rw [chI_neg (o := ((0 : Nat) : Int) - 1) (by omega), chI_nat, chI_nat, ch_zero, ch_zero]
    | succ k =>
      rw [show (((k + 1 : Nat) : Int) - 1) = (k : Int) by omega, chI_nat, chI_nat, chI_nat]
      show ch n k + ch n (k + 1) = _
      rw [Nat.add_comm]
theorem chI_le (l : Nat) (o : Int) : chI l o ≤ 2 ^ l := by
  unfold chI
  split
  · exact ch_le _ _
  · exact Nat.zero_le _
theorem chI_gt {l : Nat} {o : Int} (h : (l : Int) < o) : chI l o = 0 := by
  obtain ⟨k, rfl⟩ : ∃ k : Nat, o = (k : Int) := ⟨o.toNat, by omega⟩
  rw [chI_nat, ch_gt _ _ (by omega)]
theorem chI_zero (o : Int) : chI 0 o = if o = 0 then 1 else 0 := by
  by_cases h : o < 0
  · rw [chI_neg h, if_neg (by omega)]
  · obtain ⟨k, rfl⟩ : ∃ k : Nat, o = (k : Int) := ⟨o.toNat, by omega⟩
    rw [chI_nat]
    cases k with
    | zero => rfl
    | succ k =>
      rw [if_neg (by omega)]
      rfl
/-! bits for so many -/
theorem bf_small {m : Nat} (h : m ≤ 1) : bf m = 0 := by
  unfold bf
  rw [if_pos h]
theorem bf_iff {m f : Nat} : 2 ^ f < m ↔ f < bf m := by
  unfold bf
  by_cases h : m ≤ 1
  · rw [if_pos h]
    have : 1 ≤ 2 ^ f := Nat.one_le_two_pow
    omega
  · rw [if_neg h]
    have e : 2 ^ f ≤ m - 1 ↔ f ≤ (m - 1).log2 := (Nat.le_log2 (by omega)).symm
    have h1 : 2 ^ f < m ↔ 2 ^ f ≤ m - 1 := by omega
    rw [h1, e]
    omega
theorem bf_le {m k : Nat} (h : m ≤ 2 ^ k) : bf m ≤ k := by
  have z := (bf_iff (m := m) (f := k)).mpr
  omega
theorem bf_half {m : Nat} (h : 2 ≤ m) : bf m = 1 + bf ((m + 1) / 2) := by
  have key : ∀ f, f < bf m ↔ f < 1 + bf ((m + 1) / 2) := fun f => by
    rw [← bf_iff]
    cases f with
    | zero =>
      simp only [Nat.pow_zero]
      omega
    | succ f =>
      have e : f + 1 < 1 + bf ((m + 1) / 2) ↔ f < bf ((m + 1) / 2) := by omega
      rw [e, ← bf_iff, Nat.pow_succ]
      omega
  have a := (key (bf m)).mpr
  have b := (key (1 + bf ((m + 1) / 2))).mp
  omega
/-! ### the readings -/
theorem r_is_number : ∀ ds Q Xe, ft_is_number ds Q Xe → a_is_number (endA Q Xe) (startS ["value", "least", "most"] ds) := by
  rintro ds Q Xe ⟨d, lo, hi, rfl, hf, hp⟩
  simp only [a_is_number, AB.aSeq, AB.aAsg, AB.aIfS, AB.aDrop, AB.aRet, AB.aRetN, AB.aRetV, AB.aBrk, AB.aCt, AB.aFrz, AB.aApp, AB.aAug, AB.aRaise, AB.aPar, AB.aPar3, AB.aAsgT, AB.aNext, AB.aVar, AB.aC, AB.frz, AB.frzR, AB.toR, AB.aOp2, AB.aUn, AB.aNil, AB.aCons, AB.aCB, AB.aTB, AB.aTru, AB.aNotT, AB.aAndT, AB.aOrT, AB.aAndV, AB.aOrV, AB.aNotV, AB.aIf, AB.aChain, AB.aNoPart, AB.aPart, AB.aSl, AB.aTup, AB.aLst, AB.aCall, AB.aCallR, AB.aIsi, AB.aLc, AB.aFor, AB.aWhile, AB.aiR1, AB.aiR2, AB.aiR3, AB.aiU, AB.aiU.on1', AB.aiE, AB.agName, AB.agNil, AB.agCons, AB.agTup, AB.aTold, AB.aDrw, AB.aListR1, AB.aListR2, AB.aYes, AB.on1, AB.on2, AB.look, AB.lookAll, AB.datAll, AB.startS, AB.startR, AB.endA, AB.endR, AB.itemsD, AB.noOwn, AB.wipeS, AB.fAdd, AB.fSub, AB.fMul, AB.fDiv, AB.fMod, AB.fPow, AB.fShl, AB.fShr, AB.fAnd1, AB.fEq, AB.fNe, AB.fCmp, AB.fIs, AB.fIsNot, AB.fNeg, AB.fIx, AB.fSl, AB.fAbs, AB.fInt, AB.fMax2, AB.fMin2, AB.fLen, AB.fTupleOf, AB.fListOf, AB.fSum, AB.fLstRev, AB.isNoneD, AB.truD, AB.truOk, AB.isD_int_non, AB.isD_int_bl, AB.isD_int_int, AB.isD_int_str, AB.isD_int_lst, AB.isD_int_tup, AB.isD_bool_non, AB.isD_bool_bl, AB.isD_bool_int, AB.isD_bool_str, AB.isD_bool_lst, AB.isD_bool_tup, AB.isD_list_non, AB.isD_list_bl, AB.isD_list_int, AB.isD_list_str, AB.isD_list_lst, AB.isD_list_tup, AB.isD_tuple_non, AB.isD_tuple_bl, AB.isD_tuple_int, AB.isD_tuple_str, AB.isD_tuple_lst, AB.isD_tuple_tup, AB.isD_str_non, AB.isD_str_bl, AB.isD_str_int, AB.isD_str_str, AB.isD_str_lst, AB.isD_str_tup, List.map_cons, List.map_nil, List.length_cons, List.length_nil, List.replicate_succ, List.replicate_zero, List.cons_append, List.nil_append, List.append_nil, List.set_cons_zero, List.set_cons_succ, List.set_nil, List.getElem?_cons_zero, List.getElem?_cons_succ, List.getElem?_nil, Nat.sub_self, Nat.reduceAdd, Nat.reduceSub, Nat.zero_add, Nat.add_zero, Bool.false_eq_true, if_false, if_true, Bool.not_true, Bool.not_false, reduceIte]
  cases d with
  | int i =>
    simp only [AB.aSeq, AB.aAsg, AB.aIfS, AB.aDrop, AB.aRet, AB.aRetN, AB.aRetV, AB.aBrk, AB.aCt, AB.aFrz, AB.aApp, AB.aAug, AB.aRaise, AB.aPar, AB.aPar3, AB.aAsgT, AB.aNext, AB.aVar, AB.aC, AB.frz, AB.frzR, AB.toR, AB.aOp2, AB.aUn, AB.aNil, AB.aCons, AB.aCB, AB.aTB, AB.aTru, AB.aNotT, AB.aAndT, AB.aOrT, AB.aAndV, AB.aOrV, AB.aNotV, AB.aIf, AB.aChain, AB.aNoPart, AB.aPart, AB.aSl, AB.aTup, AB.aLst, AB.aCall, AB.aCallR, AB.aIsi, AB.aLc, AB.aFor, AB.aWhile, AB.aiR1, AB.aiR2, AB.aiR3, AB.aiU, AB.aiU.on1', AB.aiE, AB.agName, AB.agNil, AB.agCons, AB.agTup, AB.aTold, AB.aDrw, AB.aListR1, AB.aListR2, AB.aYes, AB.on1, AB.on2, AB.look, AB.lookAll, AB.datAll, AB.startS, AB.startR, AB.endA, AB.endR, AB.itemsD, AB.noOwn, AB.wipeS, AB.fAdd, AB.fSub, AB.fMul, AB.fDiv, AB.fMod, AB.fPow, AB.fShl, AB.fShr, AB.fAnd1, AB.fEq, AB.fNe, AB.fCmp, AB.fIs, AB.fIsNot, AB.fNeg, AB.fIx, AB.fSl, AB.fAbs, AB.fInt, AB.fMax2, AB.fMin2, AB.fLen, AB.fTupleOf, AB.fListOf, AB.fSum, AB.fLstRev, AB.isNoneD, AB.truD, AB.truOk, AB.isD_int_non, AB.isD_int_bl, AB.isD_int_int, AB.isD_int_str, AB.isD_int_lst, AB.isD_int_tup, AB.isD_bool_non, AB.isD_bool_bl, AB.isD_bool_int, AB.isD_bool_str, AB.isD_bool_lst, AB.isD_bool_tup, AB.isD_list_non, AB.isD_list_bl, AB.isD_list_int, AB.isD_list_str, AB.isD_list_lst, AB.isD_list_tup, AB.isD_tuple_non, AB.isD_tuple_bl, AB.isD_tuple_int, AB.isD_tuple_str, AB.isD_tuple_lst, AB.isD_tuple_tup, AB.isD_str_non, AB.isD_str_bl, AB.isD_str_int, AB.isD_str_str, AB.isD_str_lst, AB.isD_str_tup, List.map_cons, List.map_nil, List.length_cons, List.length_nil, List.replicate_succ, List.replicate_zero, List.cons_append, List.nil_append, List.append_nil, List.set_cons_zero, List.set_cons_succ, List.set_nil, List.getElem?_cons_zero, List.getElem?_cons_succ, List.getElem?_nil, Nat.sub_self, Nat.reduceAdd, Nat.reduceSub, Nat.zero_add, Nat.add_zero, Bool.false_eq_true, if_false, if_true, Bool.not_true, Bool.not_false, reduceIte, decide_eq_true_eq]
    by_cases h : lo ≤ i
    · rw [if_pos h]
      simpa [isNum, h] using hp
    · rw [if_neg h]
      simpa [isNum, h] using hp
  | bool b => simpa only [isNum, AB.aSeq, AB.aAsg, AB.aIfS, AB.aDrop, AB.aRet, AB.aRetN, AB.aRetV, AB.aBrk, AB.aCt, AB.aFrz, AB.aApp, AB.aAug, AB.aRaise, AB.aPar, AB.aPar3, AB.aAsgT, AB.aNext, AB.aVar, AB.aC, AB.frz, AB.frzR, AB.toR, AB.aOp2, AB.aUn, AB.aNil, AB.aCons, AB.aCB, AB.aTB, AB.aTru, AB.aNotT, AB.aAndT, AB.aOrT, AB.aAndV, AB.aOrV, AB.aNotV, AB.aIf, AB.aChain, AB.aNoPart, AB.aPart, AB.aSl, AB.aTup, AB.aLst, AB.aCall, AB.aCallR, AB.aIsi, AB.aLc, AB.aFor, AB.aWhile, AB.aiR1, AB.aiR2, AB.aiR3, AB.aiU, AB.aiU.on1', AB.aiE, AB.agName, AB.agNil, AB.agCons, AB.agTup, AB.aTold, AB.aDrw, AB.aListR1, AB.aListR2, AB.aYes, AB.on1, AB.on2, AB.look, AB.lookAll, AB.datAll, AB.startS, AB.startR, AB.endA, AB.endR, AB.itemsD, AB.noOwn, AB.wipeS, AB.fAdd, AB.fSub, AB.fMul, AB.fDiv, AB.fMod, AB.fPow, AB.fShl, AB.fShr, AB.fAnd1, AB.fEq, AB.fNe, AB.fCmp, AB.fIs, AB.fIsNot, AB.fNeg, AB.fIx, AB.fSl, AB.fAbs, AB.fInt, AB.fMax2, AB.fMin2, AB.fLen, AB.fTupleOf, AB.fListOf, AB.fSum, AB.fLstRev, AB.isNoneD, AB.truD, AB.truOk, AB.isD_int_non, AB.isD_int_bl, AB.isD_int_int, AB.isD_int_str, AB.isD_int_lst, AB.isD_int_tup, AB.isD_bool_non, AB.isD_bool_bl, AB.isD_bool_int, AB.isD_bool_str, AB.isD_bool_lst, AB.isD_bool_tup, AB.isD_list_non, AB.isD_list_bl, AB.isD_list_int, AB.isD_list_str, AB.isD_list_lst, AB.isD_list_tup, AB.isD_tuple_non, AB.isD_tuple_bl, AB.isD_tuple_int, AB.isD_tuple_str, AB.isD_tuple_lst, AB.isD_tuple_tup, AB.isD_str_non, AB.isD_str_bl, AB.isD_str_int, AB.isD_str_str, AB.isD_str_lst, AB.isD_str_tup, List.map_cons, List.map_nil, List.length_cons, List.length_nil, List.replicate_succ, List.replicate_zero, List.cons_append, List.nil_append, List.append_nil, List.set_cons_zero, List.set_cons_succ, List.set_nil, List.getElem?_cons_zero, List.getElem?_cons_succ, List.getElem?_nil, Nat.sub_self, Nat.reduceAdd, Nat.reduceSub, Nat.zero_add, Nat.add_zero, Bool.false_eq_true, if_false, if_true, Bool.not_true, Bool.not_false, reduceIte] using hp
  | none => simpa only [isNum, AB.aSeq, AB.aAsg, AB.aIfS, AB.aDrop, AB.aRet, AB.aRetN, AB.aRetV, AB.aBrk, AB.aCt, AB.aFrz, AB.aApp, AB.aAug, AB.aRaise, AB.aPar, AB.aPar3, AB.aAsgT, AB.aNext, AB.aVar, AB.aC, AB.frz, AB.frzR, AB.toR, AB.aOp2, AB.aUn, AB.aNil, AB.aCons, AB.aCB, AB.aTB, AB.aTru, AB.aNotT, AB.aAndT, AB.aOrT, AB.aAndV, AB.aOrV, AB.aNotV, AB.aIf, AB.aChain, AB.aNoPart, AB.aPart, AB.aSl, AB.aTup, AB.aLst, AB.aCall, AB.aCallR, AB.aIsi, AB.aLc, AB.aFor, AB.aWhile, AB.aiR1, AB.aiR2, AB.aiR3, AB.aiU, AB.aiU.on1', AB.aiE, AB.agName, AB.agNil, AB.agCons, AB.agTup, AB.aTold, AB.aDrw, AB.aListR1, AB.aListR2, AB.aYes, AB.on1, AB.on2, AB.look, AB.lookAll, AB.datAll, AB.startS, AB.startR, AB.endA, AB.endR, AB.itemsD, AB.noOwn, AB.wipeS, AB.fAdd, AB.fSub, AB.fMul, AB.fDiv, AB.fMod, AB.fPow, AB.fShl, AB.fShr, AB.fAnd1, AB.fEq, AB.fNe, AB.fCmp, AB.fIs, AB.fIsNot, AB.fNeg, AB.fIx, AB.fSl, AB.fAbs, AB.fInt, AB.fMax2, AB.fMin2, AB.fLen, AB.fTupleOf, AB.fListOf, AB.fSum, AB.fLstRev, AB.isNoneD, AB.truD, AB.truOk, AB.isD_int_non, AB.isD_int_bl, AB.isD_int_int, AB.isD_int_str, AB.isD_int_lst, AB.isD_int_tup, AB.isD_bool_non, AB.isD_bool_bl, AB.isD_bool_int, AB.isD_bool_str, AB.isD_bool_lst, AB.isD_bool_tup, AB.isD_list_non, AB.isD_list_bl, AB.isD_list_int, AB.isD_list_str, AB.isD_list_lst, AB.isD_list_tup, AB.isD_tuple_non, AB.isD_tuple_bl, AB.isD_tuple_int, AB.isD_tuple_str, AB.isD_tuple_lst, AB.isD_tuple_tup, AB.isD_str_non, AB.isD_str_bl, AB.isD_str_int, AB.isD_str_str, AB.isD_str_lst, AB.isD_str_tup, List.map_cons, List.map_nil, List.length_cons, List.length_nil, List.replicate_succ, List.replicate_zero, List.cons_append, List.nil_append, List.append_nil, List.set_cons_zero, List.set_cons_succ, List.set_nil, List.getElem?_cons_zero, List.getElem?_cons_succ, List.getElem?_nil, Nat.sub_self, Nat.reduceAdd, Nat.reduceSub, Nat.zero_add, Nat.add_zero, Bool.false_eq_true, if_false, if_true, Bool.not_true, Bool.not_false, reduceIte] using hp
  | str x => simpa only [isNum, AB.aSeq, AB.aAsg, AB.aIfS, AB.aDrop, AB.aRet, AB.aRetN, AB.aRetV, AB.aBrk, AB.aCt, AB.aFrz, AB.aApp, AB.aAug, AB.aRaise, AB.aPar, AB.aPar3, AB.aAsgT, AB.aNext, AB.aVar, AB.aC, AB.frz, AB.frzR, AB.toR, AB.aOp2, AB.aUn, AB.aNil, AB.aCons, AB.aCB, AB.aTB, AB.aTru, AB.aNotT, AB.aAndT, AB.aOrT, AB.aAndV, AB.aOrV, AB.aNotV, AB.aIf, AB.aChain, AB.aNoPart, AB.aPart, AB.aSl, AB.aTup, AB.aLst, AB.aCall, AB.aCallR, AB.aIsi, AB.aLc, AB.aFor, AB.aWhile, AB.aiR1, AB.aiR2, AB.aiR3, AB.aiU, AB.aiU.on1', AB.aiE, AB.agName, AB.agNil, AB.agCons, AB.agTup, AB.aTold, AB.aDrw, AB.aListR1, AB.aListR2, AB.aYes, AB.on1, AB.on2, AB.look, AB.lookAll, AB.datAll, AB.startS, AB.startR, AB.endA, AB.endR, AB.itemsD, AB.noOwn, AB.wipeS, AB.fAdd, AB.fSub, AB.fMul, AB.fDiv, AB.fMod, AB.fPow, AB.fShl, AB.fShr, AB.fAnd1, AB.fEq, AB.fNe, AB.fCmp, AB.fIs, AB.fIsNot, AB.fNeg, AB.fIx, AB.fSl, AB.fAbs, AB.fInt, AB.fMax2, AB.fMin2, AB.fLen, AB.fTupleOf, AB.fListOf, AB.fSum, AB.fLstRev, AB.isNoneD, AB.truD, AB.truOk, AB.isD_int_non, AB.isD_int_bl, AB.isD_int_int, AB.isD_int_str, AB.isD_int_lst, AB.isD_int_tup, AB.isD_bool_non, AB.isD_bool_bl, AB.isD_bool_int, AB.isD_bool_str, AB.isD_bool_lst, AB.isD_bool_tup, AB.isD_list_non, AB.isD_list_bl, AB.isD_list_int, AB.isD_list_str, AB.isD_list_lst, AB.isD_list_tup, AB.isD_tuple_non, AB.isD_tuple_bl, AB.isD_tuple_int, AB.isD_tuple_str, AB.isD_tuple_lst, AB.isD_tuple_tup, AB.isD_str_non, AB.isD_str_bl, AB.isD_str_int, AB.isD_str_str, AB.isD_str_lst, AB.isD_str_tup, List.map_cons, List.map_nil, List.length_cons, List.length_nil, List.replicate_succ, List.replicate_zero, List.cons_append, List.nil_append, List.append_nil, List.set_cons_zero, List.set_cons_succ, List.set_nil, List.getElem?_cons_zero, List.getElem?_cons_succ, List.getElem?_nil, Nat.sub_self, Nat.reduceAdd, Nat.reduceSub, Nat.zero_add, Nat.add_zero, Bool.false_eq_true, if_false, if_true, Bool.not_true, Bool.not_false, reduceIte] using hp
  | list x => simp [flatD] at hf
  | tuple x => simp [flatD] at hf
  | dict x => simp [flatD] at hf
theorem one_pow (f : Nat) : (1 : Int) * 2 ^ ((f : Int)).toNat = ((2 ^ f : Nat) : Int) := by
  rw [Int.toNat_natCast, Int.one_mul]
  exact (Int.natCast_pow 2 f).symm
theorem shl_ok {f : Nat} (h : f ≤ 10000) : CShl 1 (f : Int) := by
  refine ⟨by omega, ?_⟩
  have e : (Builtin.Int.intBits 1 : Int) ≤ 64 := by decide +kernel
  omega
theorem r_bits_for : ∀ ds Q Xe, ft_bits_for ds Q Xe → a_bits_for (endA Q Xe) (startS ["many", "found"] ds) := by
  rintro ds Q Xe ⟨m, rfl, hb, hp⟩
  simp only [a_bits_for_r3, a_bits_for, a_bits_for_1, a_bits_for_2, AB.aSeq, AB.aAsg, AB.aIfS, AB.aDrop, AB.aRet, AB.aRetN, AB.aRetV, AB.aBrk, AB.aCt, AB.aFrz, AB.aApp, AB.aAug, AB.aRaise, AB.aPar, AB.aPar3, AB.aAsgT, AB.aNext, AB.aVar, AB.aC, AB.frz, AB.frzR, AB.toR, AB.aOp2, AB.aUn, AB.aNil, AB.aCons, AB.aCB, AB.aTB, AB.aTru, AB.aNotT, AB.aAndT, AB.aOrT, AB.aAndV, AB.aOrV, AB.aNotV, AB.aIf, AB.aChain, AB.aNoPart, AB.aPart, AB.aSl, AB.aTup, AB.aLst, AB.aCall, AB.aCallR, AB.aIsi, AB.aLc, AB.aFor, AB.aWhile, AB.aiR1, AB.aiR2, AB.aiR3, AB.aiU, AB.aiU.on1', AB.aiE, AB.agName, AB.agNil, AB.agCons, AB.agTup, AB.aTold, AB.aDrw, AB.aListR1, AB.aListR2, AB.aYes, AB.on1, AB.on2, AB.look, AB.lookAll, AB.datAll, AB.startS, AB.startR, AB.endA, AB.endR, AB.itemsD, AB.noOwn, AB.wipeS, AB.fAdd, AB.fSub, AB.fMul, AB.fDiv, AB.fMod, AB.fPow, AB.fShl, AB.fShr, AB.fAnd1, AB.fEq, AB.fNe, AB.fCmp, AB.fIs, AB.fIsNot, AB.fNeg, AB.fIx, AB.fSl, AB.fAbs, AB.fInt, AB.fMax2, AB.fMin2, AB.fLen, AB.fTupleOf, AB.fListOf, AB.fSum, AB.fLstRev, AB.isNoneD, AB.truD, AB.truOk, AB.isD_int_non, AB.isD_int_bl, AB.isD_int_int, AB.isD_int_str, AB.isD_int_lst, AB.isD_int_tup, AB.isD_bool_non, AB.isD_bool_bl, AB.isD_bool_int, AB.isD_bool_str, AB.isD_bool_lst, AB.isD_bool_tup, AB.isD_list_non, AB.isD_list_bl, AB.isD_list_int, AB.isD_list_str, AB.isD_list_lst, AB.isD_list_tup, AB.isD_tuple_non, AB.isD_tuple_bl, AB.isD_tuple_int, AB.isD_tuple_str, AB.isD_tuple_lst, AB.isD_tuple_tup, AB.isD_str_non, AB.isD_str_bl, AB.isD_str_int, AB.isD_str_str, AB.isD_str_lst, AB.isD_str_tup, List.map_cons, List.map_nil, List.length_cons, List.length_nil, List.replicate_succ, List.replicate_zero, List.cons_append, List.nil_append, List.append_nil, List.set_cons_zero, List.set_cons_succ, List.set_nil, List.getElem?_cons_zero, List.getElem?_cons_succ, List.getElem?_nil, Nat.sub_self, Nat.reduceAdd, Nat.reduceSub, Nat.zero_add, Nat.add_zero, Bool.false_eq_true, if_false, if_true, Bool.not_true, Bool.not_false, reduceIte]
  refine ⟨fun j s => ∃ f : Nat, s = [.val (.int m), .val (.int f)] ∧ f + j = bf m, ⟨bf m, 0, rfl, by omega⟩, ?_⟩
  rintro j s ⟨f, rfl, hj⟩
  simp only [AB.aSeq, AB.aAsg, AB.aIfS, AB.aDrop, AB.aRet, AB.aRetN, AB.aRetV, AB.aBrk, AB.aCt, AB.aFrz, AB.aApp, AB.aAug, AB.aRaise, AB.aPar, AB.aPar3, AB.aAsgT, AB.aNext, AB.aVar, AB.aC, AB.frz, AB.frzR, AB.toR, AB.aOp2, AB.aUn, AB.aNil, AB.aCons, AB.aCB, AB.aTB, AB.aTru, AB.aNotT, AB.aAndT, AB.aOrT, AB.aAndV, AB.aOrV, AB.aNotV, AB.aIf, AB.aChain, AB.aNoPart, AB.aPart, AB.aSl, AB.aTup, AB.aLst, AB.aCall, AB.aCallR, AB.aIsi, AB.aLc, AB.aFor, AB.aWhile, AB.aiR1, AB.aiR2, AB.aiR3, AB.aiU, AB.aiU.on1', AB.aiE, AB.agName, AB.agNil, AB.agCons, AB.agTup, AB.aTold, AB.aDrw, AB.aListR1, AB.aListR2, AB.aYes, AB.on1, AB.on2, AB.look, AB.lookAll, AB.datAll, AB.startS, AB.startR, AB.endA, AB.endR, AB.itemsD, AB.noOwn, AB.wipeS, AB.fAdd, AB.fSub, AB.fMul, AB.fDiv, AB.fMod, AB.fPow, AB.fShl, AB.fShr, AB.fAnd1, AB.fEq, AB.fNe, AB.fCmp, AB.fIs, AB.fIsNot, AB.fNeg, AB.fIx, AB.fSl, AB.fAbs, AB.fInt, AB.fMax2, AB.fMin2, AB.fLen, AB.fTupleOf, AB.fListOf, AB.fSum, AB.fLstRev, AB.isNoneD, AB.truD, AB.truOk, AB.isD_int_non, AB.isD_int_bl, AB.isD_int_int, AB.isD_int_str, AB.isD_int_lst, AB.isD_int_tup, AB.isD_bool_non, AB.isD_bool_bl, AB.isD_bool_int, AB.isD_bool_str, AB.isD_bool_lst, AB.isD_bool_tup, AB.isD_list_non, AB.isD_list_bl, AB.isD_list_int, AB.isD_list_str, AB.isD_list_lst, AB.isD_list_tup, AB.isD_tuple_non, AB.isD_tuple_bl, AB.isD_tuple_int, AB.isD_tuple_str, AB.isD_tuple_lst, AB.isD_tuple_tup, AB.isD_str_non, AB.isD_str_bl, AB.isD_str_int, AB.isD_str_str, AB.isD_str_lst, AB.isD_str_tup, List.map_cons, List.map_nil, List.length_cons, List.length_nil, List.replicate_succ, List.replicate_zero, List.cons_append, List.nil_append, List.append_nil, List.set_cons_zero, List.set_cons_succ, List.set_nil, List.getElem?_cons_zero, List.getElem?_cons_succ, List.getElem?_nil, Nat.sub_self, Nat.reduceAdd, Nat.reduceSub, Nat.zero_add, Nat.add_zero, Bool.false_eq_true, if_false, if_true, Bool.not_true, Bool.not_false, reduceIte]
  refine ⟨shl_ok (by omega), ?_⟩
  rw [one_pow]
  by_cases h : 2 ^ f < m
  · have hf := bf_iff.mp h
    rw [if_pos (decide_eq_true (Int.ofNat_lt.mpr h))]
    exact ⟨j - 1, by omega, f + 1, by simp, by omega⟩
  · have hf : ¬ f < bf m := fun z => h (bf_iff.mpr z)
    rw [if_neg (by rw [decide_eq_false (fun z => h (Int.ofNat_lt.mp z))]; exact Bool.false_ne_true)]
    have e : f = bf m := by omega
    subst e
    exact hp
end K15
namespace K15
open PySem PySem.Spec PyProof.Rows L2 AB
theorem isNum_int (i lo hi : Int) : isNum (.int i) lo hi = (decide (lo ≤ i) && decide (i ≤ hi)) := rfl
theorem dok {j : Int} (h : 0 < j) (h2 : j < 2 ^ 64) : DOk j := by
  refine ⟨h, ?_⟩
  have e : j.natAbs < 2 ^ 64 := by omega
  have z : j.natAbs.log2 < 64 := (Nat.log2_lt (by omega)).mpr e
  omega
theorem mok_r {i j : Int} (h1 : -(2 ^ 64) < j) (h2 : j < 2 ^ 64) : MOk i j := .inl (.inr ⟨h1, h2⟩)
theorem mok_l {i j : Int} (h1 : -(2 ^ 64) < i) (h2 : i < 2 ^ 64) : MOk i j := .inl (.inl ⟨h1, h2⟩)
theorem turn_ch {l t : Nat} (h : t < l) : ((ch l t : Nat) : Int) * ((l : Int) - (t : Int)) / ((t : Int) + 1) = ((ch l (t + 1) : Nat) : Int) := by
  have e := ch_step l t
  have e2 : ((ch l t : Nat) : Int) * ((l : Int) - (t : Int)) = ((t : Int) + 1) * ((ch l (t + 1) : Nat) : Int) := by
    have z : ((l : Int) - (t : Int)) = ((l - t : Nat) : Int) := by omega
    rw [z]
    have y : (((t + 1) * ch l (t + 1) : Nat) : Int) = (((l - t) * ch l t : Nat) : Int) := by rw [e]
    rw [Int.natCast_mul, Int.natCast_mul] at y
    rw [Int.mul_comm, ← y]
    rfl
  rw [e2]
  exact Int.mul_ediv_cancel_left _ (by omega)
theorem r_binomial (C : Nat → Addr) : ∀ ds Q Xe, ft_binomial C ds Q Xe → a_binomial C (endA Q Xe) (startS ["long", "ones", "found", "at"] ds) := by
  rintro ds Q Xe (⟨l, o, rfl, hl, hp⟩ | ⟨a, b, rfl, fa, fb, hbad, hx⟩)
  · simp only [a_binomial_r2, a_binomial_r3, a_binomial_r4, a_binomial, AB.aSeq, AB.aAsg, AB.aIfS, AB.aDrop, AB.aRet, AB.aRetN, AB.aRetV, AB.aBrk, AB.aCt, AB.aFrz, AB.aApp, AB.aAug, AB.aRaise, AB.aPar, AB.aPar3, AB.aAsgT, AB.aNext, AB.aVar, AB.aC, AB.frz, AB.frzR, AB.toR, AB.aOp2, AB.aUn, AB.aNil, AB.aCons, AB.aCB, AB.aTB, AB.aTru, AB.aNotT, AB.aAndT, AB.aOrT, AB.aAndV, AB.aOrV, AB.aNotV, AB.aIf, AB.aChain, AB.aNoPart, AB.aPart, AB.aSl, AB.aTup, AB.aLst, AB.aCall, AB.aCallR, AB.aIsi, AB.aLc, AB.aFor, AB.aWhile, AB.aiR1, AB.aiR2, AB.aiR3, AB.aiU, AB.aiU.on1', AB.aiE, AB.agName, AB.agNil, AB.agCons, AB.agTup, AB.aTold, AB.aDrw, AB.aListR1, AB.aListR2, AB.aYes, AB.on1, AB.on2, AB.look, AB.lookAll, AB.datAll, AB.startS, AB.startR, AB.endA, AB.endR, AB.itemsD, AB.noOwn, AB.wipeS, AB.fAdd, AB.fSub, AB.fMul, AB.fDiv, AB.fMod, AB.fPow, AB.fShl, AB.fShr, AB.fAnd1, AB.fEq, AB.fNe, AB.fCmp, AB.fIs, AB.fIsNot, AB.fNeg, AB.fIx, AB.fSl, AB.fAbs, AB.fInt, AB.fMax2, AB.fMin2, AB.fLen, AB.fTupleOf, AB.fListOf, AB.fSum, AB.fLstRev, AB.isNoneD, AB.truD, AB.truOk, AB.isD_int_non, AB.isD_int_bl, AB.isD_int_int, AB.isD_int_str, AB.isD_int_lst, AB.isD_int_tup, AB.isD_bool_non, AB.isD_bool_bl, AB.isD_bool_int, AB.isD_bool_str, AB.isD_bool_lst, AB.isD_bool_tup, AB.isD_list_non, AB.isD_list_bl, AB.isD_list_int, AB.isD_list_str, AB.isD_list_lst, AB.isD_list_tup, AB.isD_tuple_non, AB.isD_tuple_bl, AB.isD_tuple_int, AB.isD_tuple_str, AB.isD_tuple_lst, AB.isD_tuple_tup, AB.isD_str_non, AB.isD_str_bl, AB.isD_str_int, AB.isD_str_str, AB.isD_str_lst, AB.isD_str_tup, List.map_cons, List.map_nil, List.length_cons, List.length_nil, List.replicate_succ, List.replicate_zero, List.cons_append, List.nil_append, List.append_nil, List.set_cons_zero, List.set_cons_succ, List.set_nil, List.getElem?_cons_zero, List.getElem?_cons_succ, List.getElem?_nil, Nat.sub_self, Nat.reduceAdd, Nat.reduceSub, Nat.zero_add, Nat.add_zero, Bool.false_eq_true, if_false, if_true, Bool.not_true, Bool.not_false, reduceIte]
    refine ⟨_, 0, 4000, rfl, rfl, ?_⟩
    have hn : isNum (.int (l : Int)) 0 4000 = true := by
      rw [isNum_int, decide_eq_true (show (0 : Int) ≤ (l : Int) by omega), decide_eq_true (show (l : Int) ≤ 4000 by omega)]
      rfl
    rw [hn]
    simp only [AB.aSeq, AB.aAsg, AB.aIfS, AB.aDrop, AB.aRet, AB.aRetN, AB.aRetV, AB.aBrk, AB.aCt, AB.aFrz, AB.aApp, AB.aAug, AB.aRaise, AB.aPar, AB.aPar3, AB.aAsgT, AB.aNext, AB.aVar, AB.aC, AB.frz, AB.frzR, AB.toR, AB.aOp2, AB.aUn, AB.aNil, AB.aCons, AB.aCB, AB.aTB, AB.aTru, AB.aNotT, AB.aAndT, AB.aOrT, AB.aAndV, AB.aOrV, AB.aNotV, AB.aIf, AB.aChain, AB.aNoPart, AB.aPart, AB.aSl, AB.aTup, AB.aLst, AB.aCall, AB.aCallR, AB.aIsi, AB.aLc, AB.aFor, AB.aWhile, AB.aiR1, AB.aiR2, AB.aiR3, AB.aiU, AB.aiU.on1', AB.aiE, AB.agName, AB.agNil, AB.agCons, AB.agTup, AB.aTold, AB.aDrw, AB.aListR1, AB.aListR2, AB.aYes, AB.on1, AB.on2, AB.look, AB.lookAll, AB.datAll, AB.startS, AB.startR, AB.endA, AB.endR, AB.itemsD, AB.noOwn, AB.wipeS, AB.fAdd, AB.fSub, AB.fMul, AB.fDiv, AB.fMod, AB.fPow, AB.fShl, AB.fShr, AB.fAnd1, AB.fEq, AB.fNe, AB.fCmp, AB.fIs, AB.fIsNot, AB.fNeg, AB.fIx, AB.fSl, AB.fAbs, AB.fInt, AB.fMax2, AB.fMin2, AB.fLen, AB.fTupleOf, AB.fListOf, AB.fSum, AB.fLstRev, AB.isNoneD, AB.truD, AB.truOk, AB.isD_int_non, AB.isD_int_bl, AB.isD_int_int, AB.isD_int_str, AB.isD_int_lst, AB.isD_int_tup, AB.isD_bool_non, AB.isD_bool_bl, AB.isD_bool_int, AB.isD_bool_str, AB.isD_bool_lst, AB.isD_bool_tup, AB.isD_list_non, AB.isD_list_bl, AB.isD_list_int, AB.isD_list_str, AB.isD_list_lst, AB.isD_list_tup, AB.isD_tuple_non, AB.isD_tuple_bl, AB.isD_tuple_int, AB.isD_tuple_str, AB.isD_tuple_lst, AB.isD_tuple_tup, AB.isD_str_non, AB.isD_str_bl, AB.isD_str_int, AB.isD_str_str, AB.isD_str_lst, AB.isD_str_tup, List.map_cons, List.map_nil, List.length_cons, List.length_nil, List.replicate_succ, List.replicate_zero, List.cons_append, List.nil_append, List.append_nil, List.set_cons_zero, List.set_cons_succ, List.set_nil, List.getElem?_cons_zero, List.getElem?_cons_succ, List.getElem?_nil, Nat.sub_self, Nat.reduceAdd, Nat.reduceSub, Nat.zero_add, Nat.add_zero, Bool.false_eq_true, if_false, if_true, Bool.not_true, Bool.not_false, reduceIte, decide_eq_true_eq]
    by_cases h0 : 0 ≤ o
    · rw [if_pos h0]
      by_cases h1 : o ≤ (l : Int)
      · rw [decide_eq_true h1]
        simp only [AB.aSeq, AB.aAsg, AB.aIfS, AB.aDrop, AB.aRet, AB.aRetN, AB.aRetV, AB.aBrk, AB.aCt, AB.aFrz, AB.aApp, AB.aAug, AB.aRaise, AB.aPar, AB.aPar3, AB.aAsgT, AB.aNext, AB.aVar, AB.aC, AB.frz, AB.frzR, AB.toR, AB.aOp2, AB.aUn, AB.aNil, AB.aCons, AB.aCB, AB.aTB, AB.aTru, AB.aNotT, AB.aAndT, AB.aOrT, AB.aAndV, AB.aOrV, AB.aNotV, AB.aIf, AB.aChain, AB.aNoPart, AB.aPart, AB.aSl, AB.aTup, AB.aLst, AB.aCall, AB.aCallR, AB.aIsi, AB.aLc, AB.aFor, AB.aWhile, AB.aiR1, AB.aiR2, AB.aiR3, AB.aiU, AB.aiU.on1', AB.aiE, AB.agName, AB.agNil, AB.agCons, AB.agTup, AB.aTold, AB.aDrw, AB.aListR1, AB.aListR2, AB.aYes, AB.on1, AB.on2, AB.look, AB.lookAll, AB.datAll, AB.startS, AB.startR, AB.endA, AB.endR, AB.itemsD, AB.noOwn, AB.wipeS, AB.fAdd, AB.fSub, AB.fMul, AB.fDiv, AB.fMod, AB.fPow, AB.fShl, AB.fShr, AB.fAnd1, AB.fEq, AB.fNe, AB.fCmp, AB.fIs, AB.fIsNot, AB.fNeg, AB.fIx, AB.fSl, AB.fAbs, AB.fInt, AB.fMax2, AB.fMin2, AB.fLen, AB.fTupleOf, AB.fListOf, AB.fSum, AB.fLstRev, AB.isNoneD, AB.truD, AB.truOk, AB.isD_int_non, AB.isD_int_bl, AB.isD_int_int, AB.isD_int_str, AB.isD_int_lst, AB.isD_int_tup, AB.isD_bool_non, AB.isD_bool_bl, AB.isD_bool_int, AB.isD_bool_str, AB.isD_bool_lst, AB.isD_bool_tup, AB.isD_list_non, AB.isD_list_bl, AB.isD_list_int, AB.isD_list_str, AB.isD_list_lst, AB.isD_list_tup, AB.isD_tuple_non, AB.isD_tuple_bl, AB.isD_tuple_int, AB.isD_tuple_str, AB.isD_tuple_lst, AB.isD_tuple_tup, AB.isD_str_non, AB.isD_str_bl, AB.isD_str_int, AB.isD_str_str, AB.isD_str_lst, AB.isD_str_tup, List.map_cons, List.map_nil, List.length_cons, List.length_nil, List.replicate_succ, List.replicate_zero, List.cons_append, List.nil_append, List.append_nil, List.set_cons_zero, List.set_cons_succ, List.set_nil, List.getElem?_cons_zero, List.getElem?_cons_succ, List.getElem?_nil, Nat.sub_self, Nat.reduceAdd, Nat.reduceSub, Nat.zero_add, Nat.add_zero, Bool.false_eq_true, if_false, if_true, Bool.not_true, Bool.not_false, reduceIte]
        obtain ⟨k, rfl⟩ : ∃ k : Nat, o = (k : Int) := ⟨o.toNat, by omega⟩
        rw [chI_nat] at hp
        have hk : k ≤ l := by omega
        have ej : (if ((l : Int) - (k : Int)) < (k : Int) then ((l : Int) - (k : Int)) else (k : Int)) = ((if l - k < k then l - k else k : Nat) : Int) := by
          split <;> split <;> omega
        have ev : ch l (if l - k < k then l - k else k) = ch l k := by
          split
          · exact ch_symm l k hk
          · rfl
        have hle : (if l - k < k then l - k else k) ≤ l := by split <;> omega
        rw [ej]
        generalize (if l - k < k then l - k else k) = n at ev hle
        refine ⟨by omega, by omega, fun t s => ∃ x, s = [.val (.int l), .val (.int k), .val (.int (ch l t : Nat)), x], ⟨.no, by rw [ch_zero]; rfl⟩, ?_, ?_⟩
        · rintro t d s hd ⟨x, rfl⟩
          rw [Int.toNat_natCast] at hd
          obtain ⟨ht, rfl⟩ := rangeD_get hd
          simp only [a_binomial_1, AB.aSeq, AB.aAsg, AB.aIfS, AB.aDrop, AB.aRet, AB.aRetN, AB.aRetV, AB.aBrk, AB.aCt, AB.aFrz, AB.aApp, AB.aAug, AB.aRaise, AB.aPar, AB.aPar3, AB.aAsgT, AB.aNext, AB.aVar, AB.aC, AB.frz, AB.frzR, AB.toR, AB.aOp2, AB.aUn, AB.aNil, AB.aCons, AB.aCB, AB.aTB, AB.aTru, AB.aNotT, AB.aAndT, AB.aOrT, AB.aAndV, AB.aOrV, AB.aNotV, AB.aIf, AB.aChain, AB.aNoPart, AB.aPart, AB.aSl, AB.aTup, AB.aLst, AB.aCall, AB.aCallR, AB.aIsi, AB.aLc, AB.aFor, AB.aWhile, AB.aiR1, AB.aiR2, AB.aiR3, AB.aiU, AB.aiU.on1', AB.aiE, AB.agName, AB.agNil, AB.agCons, AB.agTup, AB.aTold, AB.aDrw, AB.aListR1, AB.aListR2, AB.aYes, AB.on1, AB.on2, AB.look, AB.lookAll, AB.datAll, AB.startS, AB.startR, AB.endA, AB.endR, AB.itemsD, AB.noOwn, AB.wipeS, AB.fAdd, AB.fSub, AB.fMul, AB.fDiv, AB.fMod, AB.fPow, AB.fShl, AB.fShr, AB.fAnd1, AB.fEq, AB.fNe, AB.fCmp, AB.fIs, AB.fIsNot, AB.fNeg, AB.fIx, AB.fSl, AB.fAbs, AB.fInt, AB.fMax2, AB.fMin2, AB.fLen, AB.fTupleOf, AB.fListOf, AB.fSum, AB.fLstRev, AB.isNoneD, AB.truD, AB.truOk, AB.isD_int_non, AB.isD_int_bl, AB.isD_int_int, AB.isD_int_str, AB.isD_int_lst, AB.isD_int_tup, AB.isD_bool_non, AB.isD_bool_bl, AB.isD_bool_int, AB.isD_bool_str, AB.isD_bool_lst, AB.isD_bool_tup, AB.isD_list_non, AB.isD_list_bl, AB.isD_list_int, AB.isD_list_str, AB.isD_list_lst, AB.isD_list_tup, AB.isD_tuple_non, AB.isD_tuple_bl, AB.isD_tuple_int, AB.isD_tuple_str, AB.isD_tuple_lst, AB.isD_tuple_tup, AB.isD_str_non, AB.isD_str_bl, AB.isD_str_int, AB.isD_str_str, AB.isD_str_lst, AB.isD_str_tup, List.map_cons, List.map_nil, List.length_cons, List.length_nil, List.replicate_succ, List.replicate_zero, List.cons_append, List.nil_append, List.append_nil, List.set_cons_zero, List.set_cons_succ, List.set_nil, List.getElem?_cons_zero, List.getElem?_cons_succ, List.getElem?_nil, Nat.sub_self, Nat.reduceAdd, Nat.reduceSub, Nat.zero_add, Nat.add_zero, Bool.false_eq_true, if_false, if_true, Bool.not_true, Bool.not_false, reduceIte, Int.zero_add]
          refine ⟨mok_r (by omega) (by omega), dok (by omega) (by omega), .val (.int t), ?_⟩
          rw [turn_ch (by omega)]
        · rintro s ⟨x, rfl⟩
          rw [rangeD_len, Int.toNat_natCast]
          simp only [AB.aSeq, AB.aAsg, AB.aIfS, AB.aDrop, AB.aRet, AB.aRetN, AB.aRetV, AB.aBrk, AB.aCt, AB.aFrz, AB.aApp, AB.aAug, AB.aRaise, AB.aPar, AB.aPar3, AB.aAsgT, AB.aNext, AB.aVar, AB.aC, AB.frz, AB.frzR, AB.toR, AB.aOp2, AB.aUn, AB.aNil, AB.aCons, AB.aCB, AB.aTB, AB.aTru, AB.aNotT, AB.aAndT, AB.aOrT, AB.aAndV, AB.aOrV, AB.aNotV, AB.aIf, AB.aChain, AB.aNoPart, AB.aPart, AB.aSl, AB.aTup, AB.aLst, AB.aCall, AB.aCallR, AB.aIsi, AB.aLc, AB.aFor, AB.aWhile, AB.aiR1, AB.aiR2, AB.aiR3, AB.aiU, AB.aiU.on1', AB.aiE, AB.agName, AB.agNil, AB.agCons, AB.agTup, AB.aTold, AB.aDrw, AB.aListR1, AB.aListR2, AB.aYes, AB.on1, AB.on2, AB.look, AB.lookAll, AB.datAll, AB.startS, AB.startR, AB.endA, AB.endR, AB.itemsD, AB.noOwn, AB.wipeS, AB.fAdd, AB.fSub, AB.fMul, AB.fDiv, AB.fMod, AB.fPow, AB.fShl, AB.fShr, AB.fAnd1, AB.fEq, AB.fNe, AB.fCmp, AB.fIs, AB.fIsNot, AB.fNeg, AB.fIx, AB.fSl, AB.fAbs, AB.fInt, AB.fMax2, AB.fMin2, AB.fLen, AB.fTupleOf, AB.fListOf, AB.fSum, AB.fLstRev, AB.isNoneD, AB.truD, AB.truOk, AB.isD_int_non, AB.isD_int_bl, AB.isD_int_int, AB.isD_int_str, AB.isD_int_lst, AB.isD_int_tup, AB.isD_bool_non, AB.isD_bool_bl, AB.isD_bool_int, AB.isD_bool_str, AB.isD_bool_lst, AB.isD_bool_tup, AB.isD_list_non, AB.isD_list_bl, AB.isD_list_int, AB.isD_list_str, AB.isD_list_lst, AB.isD_list_tup, AB.isD_tuple_non, AB.isD_tuple_bl, AB.isD_tuple_int, AB.isD_tuple_str, AB.isD_tuple_lst, AB.isD_tuple_tup, AB.isD_str_non, AB.isD_str_bl, AB.isD_str_int, AB.isD_str_str, AB.isD_str_lst, AB.isD_str_tup, List.map_cons, List.map_nil, List.length_cons, List.length_nil, List.replicate_succ, List.replicate_zero, List.cons_append, List.nil_append, List.append_nil, List.set_cons_zero, List.set_cons_succ, List.set_nil, List.getElem?_cons_zero, List.getElem?_cons_succ, List.getElem?_nil, Nat.sub_self, Nat.reduceAdd, Nat.reduceSub, Nat.zero_add, Nat.add_zero, Bool.false_eq_true, if_false, if_true, Bool.not_true, Bool.not_false, reduceIte]
          rw [ev]
          exact hp
      · rw [decide_eq_false h1]
        simp only [AB.aSeq, AB.aAsg, AB.aIfS, AB.aDrop, AB.aRet, AB.aRetN, AB.aRetV, AB.aBrk, AB.aCt, AB.aFrz, AB.aApp, AB.aAug, AB.aRaise, AB.aPar, AB.aPar3, AB.aAsgT, AB.aNext, AB.aVar, AB.aC, AB.frz, AB.frzR, AB.toR, AB.aOp2, AB.aUn, AB.aNil, AB.aCons, AB.aCB, AB.aTB, AB.aTru, AB.aNotT, AB.aAndT, AB.aOrT, AB.aAndV, AB.aOrV, AB.aNotV, AB.aIf, AB.aChain, AB.aNoPart, AB.aPart, AB.aSl, AB.aTup, AB.aLst, AB.aCall, AB.aCallR, AB.aIsi, AB.aLc, AB.aFor, AB.aWhile, AB.aiR1, AB.aiR2, AB.aiR3, AB.aiU, AB.aiU.on1', AB.aiE, AB.agName, AB.agNil, AB.agCons, AB.agTup, AB.aTold, AB.aDrw, AB.aListR1, AB.aListR2, AB.aYes, AB.on1, AB.on2, AB.look, AB.lookAll, AB.datAll, AB.startS, AB.startR, AB.endA, AB.endR, AB.itemsD, AB.noOwn, AB.wipeS, AB.fAdd, AB.fSub, AB.fMul, AB.fDiv, AB.fMod, AB.fPow, AB.fShl, AB.fShr, AB.fAnd1, AB.fEq, AB.fNe, AB.fCmp, AB.fIs, AB.fIsNot, AB.fNeg, AB.fIx, AB.fSl, AB.fAbs, AB.fInt, AB.fMax2, AB.fMin2, AB.fLen, AB.fTupleOf, AB.fListOf, AB.fSum, AB.fLstRev, AB.isNoneD, AB.truD, AB.truOk, AB.isD_int_non, AB.isD_int_bl, AB.isD_int_int, AB.isD_int_str, AB.isD_int_lst, AB.isD_int_tup, AB.isD_bool_non, AB.isD_bool_bl, AB.isD_bool_int, AB.isD_bool_str, AB.isD_bool_lst, AB.isD_bool_tup, AB.isD_list_non, AB.isD_list_bl, AB.isD_list_int, AB.isD_list_str, AB.isD_list_lst, AB.isD_list_tup, AB.isD_tuple_non, AB.isD_tuple_bl, AB.isD_tuple_int, AB.isD_tuple_str, AB.isD_tuple_lst, AB.isD_tuple_tup, AB.isD_str_non, AB.isD_str_bl, AB.isD_str_int, AB.isD_str_str, AB.isD_str_lst, AB.isD_str_tup, List.map_cons, List.map_nil, List.length_cons, List.length_nil, List.replicate_succ, List.replicate_zero, List.cons_append, List.nil_append, List.append_nil, List.set_cons_zero, List.set_cons_succ, List.set_nil, List.getElem?_cons_zero, List.getElem?_cons_succ, List.getElem?_nil, Nat.sub_self, Nat.reduceAdd, Nat.reduceSub, Nat.zero_add, Nat.add_zero, Bool.false_eq_true, if_false, if_true, Bool.not_true, Bool.not_false, reduceIte]
        rw [chI_gt (by omega)] at hp
        exact hp
    · rw [if_neg h0]
      rw [chI_neg (by omega)] at hp
      exact hp
  · simp only [a_binomial_r2, a_binomial_r3, a_binomial_r4, a_binomial, AB.aSeq, AB.aAsg, AB.aIfS, AB.aDrop, AB.aRet, AB.aRetN, AB.aRetV, AB.aBrk, AB.aCt, AB.aFrz, AB.aApp, AB.aAug, AB.aRaise, AB.aPar, AB.aPar3, AB.aAsgT, AB.aNext, AB.aVar, AB.aC, AB.frz, AB.frzR, AB.toR, AB.aOp2, AB.aUn, AB.aNil, AB.aCons, AB.aCB, AB.aTB, AB.aTru, AB.aNotT, AB.aAndT, AB.aOrT, AB.aAndV, AB.aOrV, AB.aNotV, AB.aIf, AB.aChain, AB.aNoPart, AB.aPart, AB.aSl, AB.aTup, AB.aLst, AB.aCall, AB.aCallR, AB.aIsi, AB.aLc, AB.aFor, AB.aWhile, AB.aiR1, AB.aiR2, AB.aiR3, AB.aiU, AB.aiU.on1', AB.aiE, AB.agName, AB.agNil, AB.agCons, AB.agTup, AB.aTold, AB.aDrw, AB.aListR1, AB.aListR2, AB.aYes, AB.on1, AB.on2, AB.look, AB.lookAll, AB.datAll, AB.startS, AB.startR, AB.endA, AB.endR, AB.itemsD, AB.noOwn, AB.wipeS, AB.fAdd, AB.fSub, AB.fMul, AB.fDiv, AB.fMod, AB.fPow, AB.fShl, AB.fShr, AB.fAnd1, AB.fEq, AB.fNe, AB.fCmp, AB.fIs, AB.fIsNot, AB.fNeg, AB.fIx, AB.fSl, AB.fAbs, AB.fInt, AB.fMax2, AB.fMin2, AB.fLen, AB.fTupleOf, AB.fListOf, AB.fSum, AB.fLstRev, AB.isNoneD, AB.truD, AB.truOk, AB.isD_int_non, AB.isD_int_bl, AB.isD_int_int, AB.isD_int_str, AB.isD_int_lst, AB.isD_int_tup, AB.isD_bool_non, AB.isD_bool_bl, AB.isD_bool_int, AB.isD_bool_str, AB.isD_bool_lst, AB.isD_bool_tup, AB.isD_list_non, AB.isD_list_bl, AB.isD_list_int, AB.isD_list_str, AB.isD_list_lst, AB.isD_list_tup, AB.isD_tuple_non, AB.isD_tuple_bl, AB.isD_tuple_int, AB.isD_tuple_str, AB.isD_tuple_lst, AB.isD_tuple_tup, AB.isD_str_non, AB.isD_str_bl, AB.isD_str_int, AB.isD_str_str, AB.isD_str_lst, AB.isD_str_tup, List.map_cons, List.map_nil, List.length_cons, List.length_nil, List.replicate_succ, List.replicate_zero, List.cons_append, List.nil_append, List.append_nil, List.set_cons_zero, List.set_cons_succ, List.set_nil, List.getElem?_cons_zero, List.getElem?_cons_succ, List.getElem?_nil, Nat.sub_self, Nat.reduceAdd, Nat.reduceSub, Nat.zero_add, Nat.add_zero, Bool.false_eq_true, if_false, if_true, Bool.not_true, Bool.not_false, reduceIte]
    refine ⟨a, 0, 4000, rfl, fa, ?_⟩
    cases hn : isNum a 0 4000 with
    | false => exact hx
    | true =>
      simp only [AB.aSeq, AB.aAsg, AB.aIfS, AB.aDrop, AB.aRet, AB.aRetN, AB.aRetV, AB.aBrk, AB.aCt, AB.aFrz, AB.aApp, AB.aAug, AB.aRaise, AB.aPar, AB.aPar3, AB.aAsgT, AB.aNext, AB.aVar, AB.aC, AB.frz, AB.frzR, AB.toR, AB.aOp2, AB.aUn, AB.aNil, AB.aCons, AB.aCB, AB.aTB, AB.aTru, AB.aNotT, AB.aAndT, AB.aOrT, AB.aAndV, AB.aOrV, AB.aNotV, AB.aIf, AB.aChain, AB.aNoPart, AB.aPart, AB.aSl, AB.aTup, AB.aLst, AB.aCall, AB.aCallR, AB.aIsi, AB.aLc, AB.aFor, AB.aWhile, AB.aiR1, AB.aiR2, AB.aiR3, AB.aiU, AB.aiU.on1', AB.aiE, AB.agName, AB.agNil, AB.agCons, AB.agTup, AB.aTold, AB.aDrw, AB.aListR1, AB.aListR2, AB.aYes, AB.on1, AB.on2, AB.look, AB.lookAll, AB.datAll, AB.startS, AB.startR, AB.endA, AB.endR, AB.itemsD, AB.noOwn, AB.wipeS, AB.fAdd, AB.fSub, AB.fMul, AB.fDiv, AB.fMod, AB.fPow, AB.fShl, AB.fShr, AB.fAnd1, AB.fEq, AB.fNe, AB.fCmp, AB.fIs, AB.fIsNot, AB.fNeg, AB.fIx, AB.fSl, AB.fAbs, AB.fInt, AB.fMax2, AB.fMin2, AB.fLen, AB.fTupleOf, AB.fListOf, AB.fSum, AB.fLstRev, AB.isNoneD, AB.truD, AB.truOk, AB.isD_int_non, AB.isD_int_bl, AB.isD_int_int, AB.isD_int_str, AB.isD_int_lst, AB.isD_int_tup, AB.isD_bool_non, AB.isD_bool_bl, AB.isD_bool_int, AB.isD_bool_str, AB.isD_bool_lst, AB.isD_bool_tup, AB.isD_list_non, AB.isD_list_bl, AB.isD_list_int, AB.isD_list_str, AB.isD_list_lst, AB.isD_list_tup, AB.isD_tuple_non, AB.isD_tuple_bl, AB.isD_tuple_int, AB.isD_tuple_str, AB.isD_tuple_lst, AB.isD_tuple_tup, AB.isD_str_non, AB.isD_str_bl, AB.isD_str_int, AB.isD_str_str, AB.isD_str_lst, AB.isD_str_tup, List.map_cons, List.map_nil, List.length_cons, List.length_nil, List.replicate_succ, List.replicate_zero, List.cons_append, List.nil_append, List.append_nil, List.set_cons_zero, List.set_cons_succ, List.set_nil, List.getElem?_cons_zero, List.getElem?_cons_succ, List.getElem?_nil, Nat.sub_self, Nat.reduceAdd, Nat.reduceSub, Nat.zero_add, Nat.add_zero, Bool.false_eq_true, if_false, if_true, Bool.not_true, Bool.not_false, reduceIte]
      have hb : ∀ i, b ≠ .int i := by
        rcases hbad with h | h
        · rw [hn] at h
          cases h
        · exact h
      cases b with
      | int i => exact absurd rfl (hb i)
      | none => simpa only [AB.aSeq, AB.aAsg, AB.aIfS, AB.aDrop, AB.aRet, AB.aRetN, AB.aRetV, AB.aBrk, AB.aCt, AB.aFrz, AB.aApp, AB.aAug, AB.aRaise, AB.aPar, AB.aPar3, AB.aAsgT, AB.aNext, AB.aVar, AB.aC, AB.frz, AB.frzR, AB.toR, AB.aOp2, AB.aUn, AB.aNil, AB.aCons, AB.aCB, AB.aTB, AB.aTru, AB.aNotT, AB.aAndT, AB.aOrT, AB.aAndV, AB.aOrV, AB.aNotV, AB.aIf, AB.aChain, AB.aNoPart, AB.aPart, AB.aSl, AB.aTup, AB.aLst, AB.aCall, AB.aCallR, AB.aIsi, AB.aLc, AB.aFor, AB.aWhile, AB.aiR1, AB.aiR2, AB.aiR3, AB.aiU, AB.aiU.on1', AB.aiE, AB.agName, AB.agNil, AB.agCons, AB.agTup, AB.aTold, AB.aDrw, AB.aListR1, AB.aListR2, AB.aYes, AB.on1, AB.on2, AB.look, AB.lookAll, AB.datAll, AB.startS, AB.startR, AB.endA, AB.endR, AB.itemsD, AB.noOwn, AB.wipeS, AB.fAdd, AB.fSub, AB.fMul, AB.fDiv, AB.fMod, AB.fPow, AB.fShl, AB.fShr, AB.fAnd1, AB.fEq, AB.fNe, AB.fCmp, AB.fIs, AB.fIsNot, AB.fNeg, AB.fIx, AB.fSl, AB.fAbs, AB.fInt, AB.fMax2, AB.fMin2, AB.fLen, AB.fTupleOf, AB.fListOf, AB.fSum, AB.fLstRev, AB.isNoneD, AB.truD, AB.truOk, AB.isD_int_non, AB.isD_int_bl, AB.isD_int_int, AB.isD_int_str, AB.isD_int_lst, AB.isD_int_tup, AB.isD_bool_non, AB.isD_bool_bl, AB.isD_bool_int, AB.isD_bool_str, AB.isD_bool_lst, AB.isD_bool_tup, AB.isD_list_non, AB.isD_list_bl, AB.isD_list_int, AB.isD_list_str, AB.isD_list_lst, AB.isD_list_tup, AB.isD_tuple_non, AB.isD_tuple_bl, AB.isD_tuple_int, AB.isD_tuple_str, AB.isD_tuple_lst, AB.isD_tuple_tup, AB.isD_str_non, AB.isD_str_bl, AB.isD_str_int, AB.isD_str_str, AB.isD_str_lst, AB.isD_str_tup, List.map_cons, List.map_nil, List.length_cons, List.length_nil, List.replicate_succ, List.replicate_zero, List.cons_append, List.nil_append, List.append_nil, List.set_cons_zero, List.set_cons_succ, List.set_nil, List.getElem?_cons_zero, List.getElem?_cons_succ, List.getElem?_nil, Nat.sub_self, Nat.reduceAdd, Nat.reduceSub, Nat.zero_add, Nat.add_zero, Bool.false_eq_true, if_false, if_true, Bool.not_true, Bool.not_false, reduceIte] using hx
      | bool b => simpa only [AB.aSeq, AB.aAsg, AB.aIfS, AB.aDrop, AB.aRet, AB.aRetN, AB.aRetV, AB.aBrk, AB.aCt, AB.aFrz, AB.aApp, AB.aAug, AB.aRaise, AB.aPar, AB.aPar3, AB.aAsgT, AB.aNext, AB.aVar, AB.aC, AB.frz, AB.frzR, AB.toR, AB.aOp2, AB.aUn, AB.aNil, AB.aCons, AB.aCB, AB.aTB, AB.aTru, AB.aNotT, AB.aAndT, AB.aOrT, AB.aAndV, AB.aOrV, AB.aNotV, AB.aIf, AB.aChain, AB.aNoPart, AB.aPart, AB.aSl, AB.aTup, AB.aLst, AB.aCall, AB.aCallR, AB.aIsi, AB.aLc, AB.aFor, AB.aWhile, AB.aiR1, AB.aiR2, AB.aiR3, AB.aiU, AB.aiU.on1', AB.aiE, AB.agName, AB.agNil, AB.agCons, AB.agTup, AB.aTold, AB.aDrw, AB.aListR1, AB.aListR2, AB.aYes, AB.on1, AB.on2, AB.look, AB.lookAll, AB.datAll, AB.startS, AB.startR, AB.endA, AB.endR, AB.itemsD, AB.noOwn, AB.wipeS, AB.fAdd, AB.fSub, AB.fMul, AB.fDiv, AB.fMod, AB.fPow, AB.fShl, AB.fShr, AB.fAnd1, AB.fEq, AB.fNe, AB.fCmp, AB.fIs, AB.fIsNot, AB.fNeg, AB.fIx, AB.fSl, AB.fAbs, AB.fInt, AB.fMax2, AB.fMin2, AB.fLen, AB.fTupleOf, AB.fListOf, AB.fSum, AB.fLstRev, AB.isNoneD, AB.truD, AB.truOk, AB.isD_int_non, AB.isD_int_bl, AB.isD_int_int, AB.isD_int_str, AB.isD_int_lst, AB.isD_int_tup, AB.isD_bool_non, AB.isD_bool_bl, AB.isD_bool_int, AB.isD_bool_str, AB.isD_bool_lst, AB.isD_bool_tup, AB.isD_list_non, AB.isD_list_bl, AB.isD_list_int, AB.isD_list_str, AB.isD_list_lst, AB.isD_list_tup, AB.isD_tuple_non, AB.isD_tuple_bl, AB.isD_tuple_int, AB.isD_tuple_str, AB.isD_tuple_lst, AB.isD_tuple_tup, AB.isD_str_non, AB.isD_str_bl, AB.isD_str_int, AB.isD_str_str, AB.isD_str_lst, AB.isD_str_tup, List.map_cons, List.map_nil, List.length_cons, List.length_nil, List.replicate_succ, List.replicate_zero, List.cons_append, List.nil_append, List.append_nil, List.set_cons_zero, List.set_cons_succ, List.set_nil, List.getElem?_cons_zero, List.getElem?_cons_succ, List.getElem?_nil, Nat.sub_self, Nat.reduceAdd, Nat.reduceSub, Nat.zero_add, Nat.add_zero, Bool.false_eq_true, if_false, if_true, Bool.not_true, Bool.not_false, reduceIte] using hx
      | str b => simpa only [AB.aSeq, AB.aAsg, AB.aIfS, AB.aDrop, AB.aRet, AB.aRetN, AB.aRetV, AB.aBrk, AB.aCt, AB.aFrz, AB.aApp, AB.aAug, AB.aRaise, AB.aPar, AB.aPar3, AB.aAsgT, AB.aNext, AB.aVar, AB.aC, AB.frz, AB.frzR, AB.toR, AB.aOp2, AB.aUn, AB.aNil, AB.aCons, AB.aCB, AB.aTB, AB.aTru, AB.aNotT, AB.aAndT, AB.aOrT, AB.aAndV, AB.aOrV, AB.aNotV, AB.aIf, AB.aChain, AB.aNoPart, AB.aPart, AB.aSl, AB.aTup, AB.aLst, AB.aCall, AB.aCallR, AB.aIsi, AB.aLc, AB.aFor, AB.aWhile, AB.aiR1, AB.aiR2, AB.aiR3, AB.aiU, AB.aiU.on1', AB.aiE, AB.agName, AB.agNil, AB.agCons, AB.agTup, AB.aTold, AB.aDrw, AB.aListR1, AB.aListR2, AB.aYes, AB.on1, AB.on2, AB.look, AB.lookAll, AB.datAll, AB.startS, AB.startR, AB.endA, AB.endR, AB.itemsD, AB.noOwn, AB.wipeS, AB.fAdd, AB.fSub, AB.fMul, AB.fDiv, AB.fMod, AB.fPow, AB.fShl, AB.fShr, AB.fAnd1, AB.fEq, AB.fNe, AB.fCmp, AB.fIs, AB.fIsNot, AB.fNeg, AB.fIx, AB.fSl, AB.fAbs, AB.fInt, AB.fMax2, AB.fMin2, AB.fLen, AB.fTupleOf, AB.fListOf, AB.fSum, AB.fLstRev, AB.isNoneD, AB.truD, AB.truOk, AB.isD_int_non, AB.isD_int_bl, AB.isD_int_int, AB.isD_int_str, AB.isD_int_lst, AB.isD_int_tup, AB.isD_bool_non, AB.isD_bool_bl, AB.isD_bool_int, AB.isD_bool_str, AB.isD_bool_lst, AB.isD_bool_tup, AB.isD_list_non, AB.isD_list_bl, AB.isD_list_int, AB.isD_list_str, AB.isD_list_lst, AB.isD_list_tup, AB.isD_tuple_non, AB.isD_tuple_bl, AB.isD_tuple_int, AB.isD_tuple_str, AB.isD_tuple_lst, AB.isD_tuple_tup, AB.isD_str_non, AB.isD_str_bl, AB.isD_str_int, AB.isD_str_str, AB.isD_str_lst, AB.isD_str_tup, List.map_cons, List.map_nil, List.length_cons, List.length_nil, List.replicate_succ, List.replicate_zero, List.cons_append, List.nil_append, List.append_nil, List.set_cons_zero, List.set_cons_succ, List.set_nil, List.getElem?_cons_zero, List.getElem?_cons_succ, List.getElem?_nil, Nat.sub_self, Nat.reduceAdd, Nat.reduceSub, Nat.zero_add, Nat.add_zero, Bool.false_eq_true, if_false, if_true, Bool.not_true, Bool.not_false, reduceIte] using hx
      | list b => simp [flatD] at fb
      | tuple b => simp [flatD] at fb
      | dict b => simp [flatD] at fb
/-! rows of bits -/
theorem sum_bits : ∀ bs : List Bool, ((bs.map fun b => (if b then 1 else 0 : Int))).sum = (cnt bs : Nat)
  | [] => rfl
  | true :: r => by
    rw [List.map_cons, List.sum_cons, sum_bits r]
    show (1 : Int) + _ = ((cnt r + 1 : Nat) : Int)
    omega
  | false :: r => by
    rw [List.map_cons, List.sum_cons, sum_bits r]
    show (0 : Int) + _ = ((cnt r : Nat) : Int)
    omega
theorem map_bD (bs : List Bool) : bs.map bD = (bs.map fun b => (if b then 1 else 0 : Int)).map PyData.int := by
  rw [List.map_map]
  rfl
theorem get_bD {bs : List Bool} {i : Nat} {d : PyData} (h : (bs.map bD)[i]? = some d) : ∃ hi : i < bs.length, d = bD bs[i] := by
  rw [List.getElem?_map] at h
  by_cases hi : i < bs.length
  · rw [List.getElem?_eq_getElem hi] at h
    exact ⟨hi, (Option.some.inj h).symm⟩
  · rw [List.getElem?_eq_none (by omega)] at h
    cases h
theorem eqv_int (i j : Int) : PyData.eqv (.int i) (.int j) = (i == j) := by rfl
theorem shaped_int (i : Int) : SeqAt.shaped (.int i) = true := by rfl
theorem drop_at {bs : List Bool} {i : Nat} (h : i < bs.length) : bs.drop i = bs[i] :: bs.drop (i + 1) := List.drop_eq_getElem_cons h
theorem r_rank_of (C : Nat → Addr) : ∀ ds Q Xe, ft_rank_of ds Q Xe → a_rank_of C (endA Q Xe) (startS ["bits", "found", "left", "at", "bit"] ds) := by
  rintro ds Q Xe ⟨bs, rfl, hl, hp⟩
  simp only [a_rank_of_r2, a_rank_of, rowD, AB.aSeq, AB.aAsg, AB.aIfS, AB.aDrop, AB.aRet, AB.aRetN, AB.aRetV, AB.aBrk, AB.aCt, AB.aFrz, AB.aApp, AB.aAug, AB.aRaise, AB.aPar, AB.aPar3, AB.aAsgT, AB.aNext, AB.aVar, AB.aC, AB.frz, AB.frzR, AB.toR, AB.aOp2, AB.aUn, AB.aNil, AB.aCons, AB.aCB, AB.aTB, AB.aTru, AB.aNotT, AB.aAndT, AB.aOrT, AB.aAndV, AB.aOrV, AB.aNotV, AB.aIf, AB.aChain, AB.aNoPart, AB.aPart, AB.aSl, AB.aTup, AB.aLst, AB.aCall, AB.aCallR, AB.aIsi, AB.aLc, AB.aFor, AB.aWhile, AB.aiR1, AB.aiR2, AB.aiR3, AB.aiU, AB.aiU.on1', AB.aiE, AB.agName, AB.agNil, AB.agCons, AB.agTup, AB.aTold, AB.aDrw, AB.aListR1, AB.aListR2, AB.aYes, AB.on1, AB.on2, AB.look, AB.lookAll, AB.datAll, AB.startS, AB.startR, AB.endA, AB.endR, AB.itemsD, AB.noOwn, AB.wipeS, AB.fAdd, AB.fSub, AB.fMul, AB.fDiv, AB.fMod, AB.fPow, AB.fShl, AB.fShr, AB.fAnd1, AB.fEq, AB.fNe, AB.fCmp, AB.fIs, AB.fIsNot, AB.fNeg, AB.fIx, AB.fSl, AB.fAbs, AB.fInt, AB.fMax2, AB.fMin2, AB.fLen, AB.fTupleOf, AB.fListOf, AB.fSum, AB.fLstRev, AB.isNoneD, AB.truD, AB.truOk, AB.isD_int_non, AB.isD_int_bl, AB.isD_int_int, AB.isD_int_str, AB.isD_int_lst, AB.isD_int_tup, AB.isD_bool_non, AB.isD_bool_bl, AB.isD_bool_int, AB.isD_bool_str, AB.isD_bool_lst, AB.isD_bool_tup, AB.isD_list_non, AB.isD_list_bl, AB.isD_list_int, AB.isD_list_str, AB.isD_list_lst, AB.isD_list_tup, AB.isD_tuple_non, AB.isD_tuple_bl, AB.isD_tuple_int, AB.isD_tuple_str, AB.isD_tuple_lst, AB.isD_tuple_tup, AB.isD_str_non, AB.isD_str_bl, AB.isD_str_int, AB.isD_str_str, AB.isD_str_lst, AB.isD_str_tup, List.map_cons, List.map_nil, List.length_cons, List.length_nil, List.replicate_succ, List.replicate_zero, List.cons_append, List.nil_append, List.append_nil, List.set_cons_zero, List.set_cons_succ, List.set_nil, List.getElem?_cons_zero, List.getElem?_cons_succ, List.getElem?_nil, Nat.sub_self, Nat.reduceAdd, Nat.reduceSub, Nat.zero_add, Nat.add_zero, Bool.false_eq_true, if_false, if_true, Bool.not_true, Bool.not_false, reduceIte]
  refine ⟨_, map_bD bs, ?_⟩
  rw [sum_bits]
  refine ⟨fun k s => ∃ (f : Nat) (x y : SV), s = [.val (.tuple (bs.map bD)), .val (.int f), .val (.int (cnt (bs.drop k) : Nat)), x, y] ∧ f + rank (bs.drop k) = rank bs, ⟨0, .no, .no, by rfl, by simp⟩, ?_, ?_⟩
  · rintro k d s hd ⟨f, x, y, rfl, hf⟩
    obtain ⟨e, he, rfl⟩ := enumD_get hd
    obtain ⟨hk, rfl⟩ := get_bD he
    simp only [a_rank_of_1, AB.aSeq, AB.aAsg, AB.aIfS, AB.aDrop, AB.aRet, AB.aRetN, AB.aRetV, AB.aBrk, AB.aCt, AB.aFrz, AB.aApp, AB.aAug, AB.aRaise, AB.aPar, AB.aPar3, AB.aAsgT, AB.aNext, AB.aVar, AB.aC, AB.frz, AB.frzR, AB.toR, AB.aOp2, AB.aUn, AB.aNil, AB.aCons, AB.aCB, AB.aTB, AB.aTru, AB.aNotT, AB.aAndT, AB.aOrT, AB.aAndV, AB.aOrV, AB.aNotV, AB.aIf, AB.aChain, AB.aNoPart, AB.aPart, AB.aSl, AB.aTup, AB.aLst, AB.aCall, AB.aCallR, AB.aIsi, AB.aLc, AB.aFor, AB.aWhile, AB.aiR1, AB.aiR2, AB.aiR3, AB.aiU, AB.aiU.on1', AB.aiE, AB.agName, AB.agNil, AB.agCons, AB.agTup, AB.aTold, AB.aDrw, AB.aListR1, AB.aListR2, AB.aYes, AB.on1, AB.on2, AB.look, AB.lookAll, AB.datAll, AB.startS, AB.startR, AB.endA, AB.endR, AB.itemsD, AB.noOwn, AB.wipeS, AB.fAdd, AB.fSub, AB.fMul, AB.fDiv, AB.fMod, AB.fPow, AB.fShl, AB.fShr, AB.fAnd1, AB.fEq, AB.fNe, AB.fCmp, AB.fIs, AB.fIsNot, AB.fNeg, AB.fIx, AB.fSl, AB.fAbs, AB.fInt, AB.fMax2, AB.fMin2, AB.fLen, AB.fTupleOf, AB.fListOf, AB.fSum, AB.fLstRev, AB.isNoneD, AB.truD, AB.truOk, AB.isD_int_non, AB.isD_int_bl, AB.isD_int_int, AB.isD_int_str, AB.isD_int_lst, AB.isD_int_tup, AB.isD_bool_non, AB.isD_bool_bl, AB.isD_bool_int, AB.isD_bool_str, AB.isD_bool_lst, AB.isD_bool_tup, AB.isD_list_non, AB.isD_list_bl, AB.isD_list_int, AB.isD_list_str, AB.isD_list_lst, AB.isD_list_tup, AB.isD_tuple_non, AB.isD_tuple_bl, AB.isD_tuple_int, AB.isD_tuple_str, AB.isD_tuple_lst, AB.isD_tuple_tup, AB.isD_str_non, AB.isD_str_bl, AB.isD_str_int, AB.isD_str_str, AB.isD_str_lst, AB.isD_str_tup, List.map_cons, List.map_nil, List.length_cons, List.length_nil, List.replicate_succ, List.replicate_zero, List.cons_append, List.nil_append, List.append_nil, List.set_cons_zero, List.set_cons_succ, List.set_nil, List.getElem?_cons_zero, List.getElem?_cons_succ, List.getElem?_nil, Nat.sub_self, Nat.reduceAdd, Nat.reduceSub, Nat.zero_add, Nat.add_zero, Bool.false_eq_true, if_false, if_true, Bool.not_true, Bool.not_false, reduceIte]
    refine ⟨trivial, ?_⟩
    rw [drop_at hk] at hf
    rw [drop_at hk]
    cases hb : bs[k] with
    | false =>
      rw [hb] at hf
      simp only [bD, AB.aSeq, AB.aAsg, AB.aIfS, AB.aDrop, AB.aRet, AB.aRetN, AB.aRetV, AB.aBrk, AB.aCt, AB.aFrz, AB.aApp, AB.aAug, AB.aRaise, AB.aPar, AB.aPar3, AB.aAsgT, AB.aNext, AB.aVar, AB.aC, AB.frz, AB.frzR, AB.toR, AB.aOp2, AB.aUn, AB.aNil, AB.aCons, AB.aCB, AB.aTB, AB.aTru, AB.aNotT, AB.aAndT, AB.aOrT, AB.aAndV, AB.aOrV, AB.aNotV, AB.aIf, AB.aChain, AB.aNoPart, AB.aPart, AB.aSl, AB.aTup, AB.aLst, AB.aCall, AB.aCallR, AB.aIsi, AB.aLc, AB.aFor, AB.aWhile, AB.aiR1, AB.aiR2, AB.aiR3, AB.aiU, AB.aiU.on1', AB.aiE, AB.agName, AB.agNil, AB.agCons, AB.agTup, AB.aTold, AB.aDrw, AB.aListR1, AB.aListR2, AB.aYes, AB.on1, AB.on2, AB.look, AB.lookAll, AB.datAll, AB.startS, AB.startR, AB.endA, AB.endR, AB.itemsD, AB.noOwn, AB.wipeS, AB.fAdd, AB.fSub, AB.fMul, AB.fDiv, AB.fMod, AB.fPow, AB.fShl, AB.fShr, AB.fAnd1, AB.fEq, AB.fNe, AB.fCmp, AB.fIs, AB.fIsNot, AB.fNeg, AB.fIx, AB.fSl, AB.fAbs, AB.fInt, AB.fMax2, AB.fMin2, AB.fLen, AB.fTupleOf, AB.fListOf, AB.fSum, AB.fLstRev, AB.isNoneD, AB.truD, AB.truOk, AB.isD_int_non, AB.isD_int_bl, AB.isD_int_int, AB.isD_int_str, AB.isD_int_lst, AB.isD_int_tup, AB.isD_bool_non, AB.isD_bool_bl, AB.isD_bool_int, AB.isD_bool_str, AB.isD_bool_lst, AB.isD_bool_tup, AB.isD_list_non, AB.isD_list_bl, AB.isD_list_int, AB.isD_list_str, AB.isD_list_lst, AB.isD_list_tup, AB.isD_tuple_non, AB.isD_tuple_bl, AB.isD_tuple_int, AB.isD_tuple_str, AB.isD_tuple_lst, AB.isD_tuple_tup, AB.isD_str_non, AB.isD_str_bl, AB.isD_str_int, AB.isD_str_str, AB.isD_str_lst, AB.isD_str_tup, List.map_cons, List.map_nil, List.length_cons, List.length_nil, List.replicate_succ, List.replicate_zero, List.cons_append, List.nil_append, List.append_nil, List.set_cons_zero, List.set_cons_succ, List.set_nil, List.getElem?_cons_zero, List.getElem?_cons_succ, List.getElem?_nil, Nat.sub_self, Nat.reduceAdd, Nat.reduceSub, Nat.zero_add, Nat.add_zero, Bool.false_eq_true, if_false, if_true, Bool.not_true, Bool.not_false, reduceIte, eqv_int, shaped_int, true_and]
      refine ⟨f, .val (.int k), .val (.int 0), ?_, hf⟩
      rfl
    | true =>
      rw [hb] at hf
      have hf2 : f + (ch (bs.drop (k + 1)).length (cnt (bs.drop (k + 1)) + 1) + rank (bs.drop (k + 1))) = rank bs := hf
      simp only [bD, AB.aSeq, AB.aAsg, AB.aIfS, AB.aDrop, AB.aRet, AB.aRetN, AB.aRetV, AB.aBrk, AB.aCt, AB.aFrz, AB.aApp, AB.aAug, AB.aRaise, AB.aPar, AB.aPar3, AB.aAsgT, AB.aNext, AB.aVar, AB.aC, AB.frz, AB.frzR, AB.toR, AB.aOp2, AB.aUn, AB.aNil, AB.aCons, AB.aCB, AB.aTB, AB.aTru, AB.aNotT, AB.aAndT, AB.aOrT, AB.aAndV, AB.aOrV, AB.aNotV, AB.aIf, AB.aChain, AB.aNoPart, AB.aPart, AB.aSl, AB.aTup, AB.aLst, AB.aCall, AB.aCallR, AB.aIsi, AB.aLc, AB.aFor, AB.aWhile, AB.aiR1, AB.aiR2, AB.aiR3, AB.aiU, AB.aiU.on1', AB.aiE, AB.agName, AB.agNil, AB.agCons, AB.agTup, AB.aTold, AB.aDrw, AB.aListR1, AB.aListR2, AB.aYes, AB.on1, AB.on2, AB.look, AB.lookAll, AB.datAll, AB.startS, AB.startR, AB.endA, AB.endR, AB.itemsD, AB.noOwn, AB.wipeS, AB.fAdd, AB.fSub, AB.fMul, AB.fDiv, AB.fMod, AB.fPow, AB.fShl, AB.fShr, AB.fAnd1, AB.fEq, AB.fNe, AB.fCmp, AB.fIs, AB.fIsNot, AB.fNeg, AB.fIx, AB.fSl, AB.fAbs, AB.fInt, AB.fMax2, AB.fMin2, AB.fLen, AB.fTupleOf, AB.fListOf, AB.fSum, AB.fLstRev, AB.isNoneD, AB.truD, AB.truOk, AB.isD_int_non, AB.isD_int_bl, AB.isD_int_int, AB.isD_int_str, AB.isD_int_lst, AB.isD_int_tup, AB.isD_bool_non, AB.isD_bool_bl, AB.isD_bool_int, AB.isD_bool_str, AB.isD_bool_lst, AB.isD_bool_tup, AB.isD_list_non, AB.isD_list_bl, AB.isD_list_int, AB.isD_list_str, AB.isD_list_lst, AB.isD_list_tup, AB.isD_tuple_non, AB.isD_tuple_bl, AB.isD_tuple_int, AB.isD_tuple_str, AB.isD_tuple_lst, AB.isD_tuple_tup, AB.isD_str_non, AB.isD_str_bl, AB.isD_str_int, AB.isD_str_str, AB.isD_str_lst, AB.isD_str_tup, List.map_cons, List.map_nil, List.length_cons, List.length_nil, List.replicate_succ, List.replicate_zero, List.cons_append, List.nil_append, List.append_nil, List.set_cons_zero, List.set_cons_succ, List.set_nil, List.getElem?_cons_zero, List.getElem?_cons_succ, List.getElem?_nil, Nat.sub_self, Nat.reduceAdd, Nat.reduceSub, Nat.zero_add, Nat.add_zero, Bool.false_eq_true, if_false, if_true, Bool.not_true, Bool.not_false, reduceIte, eqv_int, shaped_int, true_and]
      rw [if_pos (show ((1 : Int) == 1) = true from rfl)]
      refine .inl ⟨(bs.drop (k + 1)).length, ((cnt (bs.drop (k + 1)) + 1 : Nat) : Int), ?_, ?_, ?_⟩
      · rw [List.length_map, List.length_drop]
        have : ((bs.length : Int) - (k : Int) - 1) = ((bs.length - (k + 1) : Nat) : Int) := by omega
        rw [this]
        rfl
      · rw [List.length_drop]
        omega
      · rw [chI_nat]
        refine ⟨f + ch (bs.drop (k + 1)).length (cnt (bs.drop (k + 1)) + 1), .val (.int k), .val (.int 1), ?_, by omega⟩
        have : ((cnt (true :: bs.drop (k + 1)) : Nat) : Int) - 1 = ((cnt (bs.drop (k + 1)) : Nat) : Int) := by
          show ((cnt (bs.drop (k + 1)) + 1 : Nat) : Int) - 1 = _
          omega
        rw [this]
        rfl
  · rintro s ⟨f, x, y, rfl, hf⟩
    rw [enumD_len, List.length_map, List.drop_length] at hf
    have e : f = rank bs := hf
    rw [e]
    exact hp

/-! bits_of -/
theorem unrank_lt {n : Nat} {o : Int} {r : Nat} (h : r < chI n o) : unrank (n + 1) o r = false :: unrank n o r := by
  show (if r < chI n o then _ else _) = _
  rw [if_pos h]
theorem unrank_ge {n : Nat} {o : Int} {r : Nat} (h : ¬ r < chI n o) : unrank (n + 1) o r = true :: unrank n (o - 1) (r - chI n o) := by
  show (if r < chI n o then _ else _) = _
  rw [if_neg h]
theorem r_bits_of (C : Nat → Addr) : ∀ ds Q Xe, ft_bits_of C ds Q Xe → a_bits_of C (endA Q Xe) (startS ["long", "ones", "rank", "found", "at", "many"] ds) := by
  rintro ds Q Xe ⟨l, o, d, rfl, hl, fd, hh⟩
  simp only [a_bits_of_r2, a_bits_of_r3, a_bits_of, AB.aSeq, AB.aAsg, AB.aIfS, AB.aDrop, AB.aRet, AB.aRetN, AB.aRetV, AB.aBrk, AB.aCt, AB.aFrz, AB.aApp, AB.aAug, AB.aRaise, AB.aPar, AB.aPar3, AB.aAsgT, AB.aNext, AB.aVar, AB.aC, AB.frz, AB.frzR, AB.toR, AB.aOp2, AB.aUn, AB.aNil, AB.aCons, AB.aCB, AB.aTB, AB.aTru, AB.aNotT, AB.aAndT, AB.aOrT, AB.aAndV, AB.aOrV, AB.aNotV, AB.aIf, AB.aChain, AB.aNoPart, AB.aPart, AB.aSl, AB.aTup, AB.aLst, AB.aCall, AB.aCallR, AB.aIsi, AB.aLc, AB.aFor, AB.aWhile, AB.aiR1, AB.aiR2, AB.aiR3, AB.aiU, AB.aiU.on1', AB.aiE, AB.agName, AB.agNil, AB.agCons, AB.agTup, AB.aTold, AB.aDrw, AB.aListR1, AB.aListR2, AB.aYes, AB.on1, AB.on2, AB.look, AB.lookAll, AB.datAll, AB.startS, AB.startR, AB.endA, AB.endR, AB.itemsD, AB.noOwn, AB.wipeS, AB.fAdd, AB.fSub, AB.fMul, AB.fDiv, AB.fMod, AB.fPow, AB.fShl, AB.fShr, AB.fAnd1, AB.fEq, AB.fNe, AB.fCmp, AB.fIs, AB.fIsNot, AB.fNeg, AB.fIx, AB.fSl, AB.fAbs, AB.fInt, AB.fMax2, AB.fMin2, AB.fLen, AB.fTupleOf, AB.fListOf, AB.fSum, AB.fLstRev, AB.isNoneD, AB.truD, AB.truOk, AB.isD_int_non, AB.isD_int_bl, AB.isD_int_int, AB.isD_int_str, AB.isD_int_lst, AB.isD_int_tup, AB.isD_bool_non, AB.isD_bool_bl, AB.isD_bool_int, AB.isD_bool_str, AB.isD_bool_lst, AB.isD_bool_tup, AB.isD_list_non, AB.isD_list_bl, AB.isD_list_int, AB.isD_list_str, AB.isD_list_lst, AB.isD_list_tup, AB.isD_tuple_non, AB.isD_tuple_bl, AB.isD_tuple_int, AB.isD_tuple_str, AB.isD_tuple_lst, AB.isD_tuple_tup, AB.isD_str_non, AB.isD_str_bl, AB.isD_str_int, AB.isD_str_str, AB.isD_str_lst, AB.isD_str_tup, List.map_cons, List.map_nil, List.length_cons, List.length_nil, List.replicate_succ, List.replicate_zero, List.cons_append, List.nil_append, List.append_nil, List.set_cons_zero, List.set_cons_succ, List.set_nil, List.getElem?_cons_zero, List.getElem?_cons_succ, List.getElem?_nil, Nat.sub_self, Nat.reduceAdd, Nat.reduceSub, Nat.zero_add, Nat.add_zero, Bool.false_eq_true, if_false, if_true, Bool.not_true, Bool.not_false, reduceIte]
  refine .inl ⟨l, o, rfl, hl, d, 0, ((chI l o : Nat) : Int) - 1, rfl, fd, ?_⟩
  rcases hh with ⟨r, rfl, hr, hp⟩ | ⟨hn, hx⟩
  · have hn : isNum (.int (r : Int)) 0 (((chI l o : Nat) : Int) - 1) = true := by
      rw [isNum_int, decide_eq_true (show (0 : Int) ≤ (r : Int) by omega), decide_eq_true (show (r : Int) ≤ ((chI l o : Nat) : Int) - 1 by omega)]
      rfl
    rw [hn]
    simp only [AB.aSeq, AB.aAsg, AB.aIfS, AB.aDrop, AB.aRet, AB.aRetN, AB.aRetV, AB.aBrk, AB.aCt, AB.aFrz, AB.aApp, AB.aAug, AB.aRaise, AB.aPar, AB.aPar3, AB.aAsgT, AB.aNext, AB.aVar, AB.aC, AB.frz, AB.frzR, AB.toR, AB.aOp2, AB.aUn, AB.aNil, AB.aCons, AB.aCB, AB.aTB, AB.aTru, AB.aNotT, AB.aAndT, AB.aOrT, AB.aAndV, AB.aOrV, AB.aNotV, AB.aIf, AB.aChain, AB.aNoPart, AB.aPart, AB.aSl, AB.aTup, AB.aLst, AB.aCall, AB.aCallR, AB.aIsi, AB.aLc, AB.aFor, AB.aWhile, AB.aiR1, AB.aiR2, AB.aiR3, AB.aiU, AB.aiU.on1', AB.aiE, AB.agName, AB.agNil, AB.agCons, AB.agTup, AB.aTold, AB.aDrw, AB.aListR1, AB.aListR2, AB.aYes, AB.on1, AB.on2, AB.look, AB.lookAll, AB.datAll, AB.startS, AB.startR, AB.endA, AB.endR, AB.itemsD, AB.noOwn, AB.wipeS, AB.fAdd, AB.fSub, AB.fMul, AB.fDiv, AB.fMod, AB.fPow, AB.fShl, AB.fShr, AB.fAnd1, AB.fEq, AB.fNe, AB.fCmp, AB.fIs, AB.fIsNot, AB.fNeg, AB.fIx, AB.fSl, AB.fAbs, AB.fInt, AB.fMax2, AB.fMin2, AB.fLen, AB.fTupleOf, AB.fListOf, AB.fSum, AB.fLstRev, AB.isNoneD, AB.truD, AB.truOk, AB.isD_int_non, AB.isD_int_bl, AB.isD_int_int, AB.isD_int_str, AB.isD_int_lst, AB.isD_int_tup, AB.isD_bool_non, AB.isD_bool_bl, AB.isD_bool_int, AB.isD_bool_str, AB.isD_bool_lst, AB.isD_bool_tup, AB.isD_list_non, AB.isD_list_bl, AB.isD_list_int, AB.isD_list_str, AB.isD_list_lst, AB.isD_list_tup, AB.isD_tuple_non, AB.isD_tuple_bl, AB.isD_tuple_int, AB.isD_tuple_str, AB.isD_tuple_lst, AB.isD_tuple_tup, AB.isD_str_non, AB.isD_str_bl, AB.isD_str_int, AB.isD_str_str, AB.isD_str_lst, AB.isD_str_tup, List.map_cons, List.map_nil, List.length_cons, List.length_nil, List.replicate_succ, List.replicate_zero, List.cons_append, List.nil_append, List.append_nil, List.set_cons_zero, List.set_cons_succ, List.set_nil, List.getElem?_cons_zero, List.getElem?_cons_succ, List.getElem?_nil, Nat.sub_self, Nat.reduceAdd, Nat.reduceSub, Nat.zero_add, Nat.add_zero, Bool.false_eq_true, if_false, if_true, Bool.not_true, Bool.not_false, reduceIte]
    refine ⟨by omega, by omega, by omega, fun t s => ∃ (acc : List Bool) (o' : Int) (r' : Nat) (x y : SV), s = [.val (.int l), .val (.int o'), .val (.int r'), .lst (acc.map bD), x, y] ∧ t ≤ l ∧ acc.length = t ∧ r' < chI (l - t) o' ∧ acc ++ unrank (l - t) o' r' = unrank l o r, ⟨[], o, r, .no, .no, rfl, by omega, rfl, hr, rfl⟩, ?_, ?_⟩
    · rintro t d s hd ⟨acc, o', r', x, y, rfl, ht, ha, hr', he⟩
      rw [Int.toNat_natCast] at hd
      obtain ⟨ht, rfl⟩ := rangeD_get hd
      obtain ⟨n, hn⟩ : ∃ n, l - t = n + 1 := ⟨l - t - 1, by omega⟩
      rw [hn] at hr' he
      rw [chI_succ] at hr'
      simp only [a_bits_of_1, AB.aSeq, AB.aAsg, AB.aIfS, AB.aDrop, AB.aRet, AB.aRetN, AB.aRetV, AB.aBrk, AB.aCt, AB.aFrz, AB.aApp, AB.aAug, AB.aRaise, AB.aPar, AB.aPar3, AB.aAsgT, AB.aNext, AB.aVar, AB.aC, AB.frz, AB.frzR, AB.toR, AB.aOp2, AB.aUn, AB.aNil, AB.aCons, AB.aCB, AB.aTB, AB.aTru, AB.aNotT, AB.aAndT, AB.aOrT, AB.aAndV, AB.aOrV, AB.aNotV, AB.aIf, AB.aChain, AB.aNoPart, AB.aPart, AB.aSl, AB.aTup, AB.aLst, AB.aCall, AB.aCallR, AB.aIsi, AB.aLc, AB.aFor, AB.aWhile, AB.aiR1, AB.aiR2, AB.aiR3, AB.aiU, AB.aiU.on1', AB.aiE, AB.agName, AB.agNil, AB.agCons, AB.agTup, AB.aTold, AB.aDrw, AB.aListR1, AB.aListR2, AB.aYes, AB.on1, AB.on2, AB.look, AB.lookAll, AB.datAll, AB.startS, AB.startR, AB.endA, AB.endR, AB.itemsD, AB.noOwn, AB.wipeS, AB.fAdd, AB.fSub, AB.fMul, AB.fDiv, AB.fMod, AB.fPow, AB.fShl, AB.fShr, AB.fAnd1, AB.fEq, AB.fNe, AB.fCmp, AB.fIs, AB.fIsNot, AB.fNeg, AB.fIx, AB.fSl, AB.fAbs, AB.fInt, AB.fMax2, AB.fMin2, AB.fLen, AB.fTupleOf, AB.fListOf, AB.fSum, AB.fLstRev, AB.isNoneD, AB.truD, AB.truOk, AB.isD_int_non, AB.isD_int_bl, AB.isD_int_int, AB.isD_int_str, AB.isD_int_lst, AB.isD_int_tup, AB.isD_bool_non, AB.isD_bool_bl, AB.isD_bool_int, AB.isD_bool_str, AB.isD_bool_lst, AB.isD_bool_tup, AB.isD_list_non, AB.isD_list_bl, AB.isD_list_int, AB.isD_list_str, AB.isD_list_lst, AB.isD_list_tup, AB.isD_tuple_non, AB.isD_tuple_bl, AB.isD_tuple_int, AB.isD_tuple_str, AB.isD_tuple_lst, AB.isD_tuple_tup, AB.isD_str_non, AB.isD_str_bl, AB.isD_str_int, AB.isD_str_str, AB.isD_str_lst, AB.isD_str_tup, List.map_cons, List.map_nil, List.length_cons, List.length_nil, List.replicate_succ, List.replicate_zero, List.cons_append, List.nil_append, List.append_nil, List.set_cons_zero, List.set_cons_succ, List.set_nil, List.getElem?_cons_zero, List.getElem?_cons_succ, List.getElem?_nil, Nat.sub_self, Nat.reduceAdd, Nat.reduceSub, Nat.zero_add, Nat.add_zero, Bool.false_eq_true, if_false, if_true, Bool.not_true, Bool.not_false, reduceIte, Int.zero_add]
      refine .inl ⟨n, o', ?_, by omega, ?_⟩
      · rw [show ((l : Int) - (t : Int) - 1) = (n : Int) by omega]
      · simp only [AB.aSeq, AB.aAsg, AB.aIfS, AB.aDrop, AB.aRet, AB.aRetN, AB.aRetV, AB.aBrk, AB.aCt, AB.aFrz, AB.aApp, AB.aAug, AB.aRaise, AB.aPar, AB.aPar3, AB.aAsgT, AB.aNext, AB.aVar, AB.aC, AB.frz, AB.frzR, AB.toR, AB.aOp2, AB.aUn, AB.aNil, AB.aCons, AB.aCB, AB.aTB, AB.aTru, AB.aNotT, AB.aAndT, AB.aOrT, AB.aAndV, AB.aOrV, AB.aNotV, AB.aIf, AB.aChain, AB.aNoPart, AB.aPart, AB.aSl, AB.aTup, AB.aLst, AB.aCall, AB.aCallR, AB.aIsi, AB.aLc, AB.aFor, AB.aWhile, AB.aiR1, AB.aiR2, AB.aiR3, AB.aiU, AB.aiU.on1', AB.aiE, AB.agName, AB.agNil, AB.agCons, AB.agTup, AB.aTold, AB.aDrw, AB.aListR1, AB.aListR2, AB.aYes, AB.on1, AB.on2, AB.look, AB.lookAll, AB.datAll, AB.startS, AB.startR, AB.endA, AB.endR, AB.itemsD, AB.noOwn, AB.wipeS, AB.fAdd, AB.fSub, AB.fMul, AB.fDiv, AB.fMod, AB.fPow, AB.fShl, AB.fShr, AB.fAnd1, AB.fEq, AB.fNe, AB.fCmp, AB.fIs, AB.fIsNot, AB.fNeg, AB.fIx, AB.fSl, AB.fAbs, AB.fInt, AB.fMax2, AB.fMin2, AB.fLen, AB.fTupleOf, AB.fListOf, AB.fSum, AB.fLstRev, AB.isNoneD, AB.truD, AB.truOk, AB.isD_int_non, AB.isD_int_bl, AB.isD_int_int, AB.isD_int_str, AB.isD_int_lst, AB.isD_int_tup, AB.isD_bool_non, AB.isD_bool_bl, AB.isD_bool_int, AB.isD_bool_str, AB.isD_bool_lst, AB.isD_bool_tup, AB.isD_list_non, AB.isD_list_bl, AB.isD_list_int, AB.isD_list_str, AB.isD_list_lst, AB.isD_list_tup, AB.isD_tuple_non, AB.isD_tuple_bl, AB.isD_tuple_int, AB.isD_tuple_str, AB.isD_tuple_lst, AB.isD_tuple_tup, AB.isD_str_non, AB.isD_str_bl, AB.isD_str_int, AB.isD_str_str, AB.isD_str_lst, AB.isD_str_tup, List.map_cons, List.map_nil, List.length_cons, List.length_nil, List.replicate_succ, List.replicate_zero, List.cons_append, List.nil_append, List.append_nil, List.set_cons_zero, List.set_cons_succ, List.set_nil, List.getElem?_cons_zero, List.getElem?_cons_succ, List.getElem?_nil, Nat.sub_self, Nat.reduceAdd, Nat.reduceSub, Nat.zero_add, Nat.add_zero, Bool.false_eq_true, if_false, if_true, Bool.not_true, Bool.not_false, reduceIte, decide_eq_true_eq]
        by_cases hlt : r' < chI n o'
        · rw [if_pos (by omega)]
          refine ⟨by rw [List.length_map]; omega, ?_⟩
          rw [if_neg (by omega)]
          refine ⟨acc ++ [false], o', r', .val (.int t), .val (.int (chI n o' : Nat)), ?_, by omega, ?_, ?_, ?_⟩
          · rw [List.map_append]
            rfl
          · rw [List.length_append, ha]
            rfl
          · rw [show l - (t + 1) = n by omega]
            exact hlt
          · rw [show l - (t + 1) = n by omega, ← he, unrank_lt hlt, List.append_assoc]
            rfl
        · rw [if_neg (by omega)]
          refine ⟨by rw [List.length_map]; omega, ?_⟩
          rw [if_pos (by omega)]
          refine ⟨acc ++ [true], o' - 1, r' - chI n o', .val (.int t), .val (.int (chI n o' : Nat)), ?_, by omega, ?_, ?_, ?_⟩
          · rw [List.map_append, show (((r' - chI n o' : Nat) : Nat) : Int) = (r' : Int) - ((chI n o' : Nat) : Int) by omega]
            rfl
          · rw [List.length_append, ha]
            rfl
          · rw [show l - (t + 1) = n by omega]
            omega
          · rw [show l - (t + 1) = n by omega, ← he, unrank_ge hlt, List.append_assoc]
            rfl
    · rintro s ⟨acc, o', r', x, y, rfl, ht, ha, hr', he⟩
      rw [rangeD_len, Int.toNat_natCast, Nat.sub_self] at he
      have e : acc = unrank l o r := by
        rw [← he]
        show acc = acc ++ []
        rw [List.append_nil]
      subst e
      exact hp
  · rw [hn]
    exact hx
theorem r_rank_width (C : Nat → Addr) : ∀ ds Q Xe, ft_rank_width ds Q Xe → a_rank_width C (endA Q Xe) (startS ["long", "ones"] ds) := by
  rintro ds Q Xe ⟨l, o, rfl, hl, hp⟩
  simp only [a_rank_width, AB.aSeq, AB.aAsg, AB.aIfS, AB.aDrop, AB.aRet, AB.aRetN, AB.aRetV, AB.aBrk, AB.aCt, AB.aFrz, AB.aApp, AB.aAug, AB.aRaise, AB.aPar, AB.aPar3, AB.aAsgT, AB.aNext, AB.aVar, AB.aC, AB.frz, AB.frzR, AB.toR, AB.aOp2, AB.aUn, AB.aNil, AB.aCons, AB.aCB, AB.aTB, AB.aTru, AB.aNotT, AB.aAndT, AB.aOrT, AB.aAndV, AB.aOrV, AB.aNotV, AB.aIf, AB.aChain, AB.aNoPart, AB.aPart, AB.aSl, AB.aTup, AB.aLst, AB.aCall, AB.aCallR, AB.aIsi, AB.aLc, AB.aFor, AB.aWhile, AB.aiR1, AB.aiR2, AB.aiR3, AB.aiU, AB.aiU.on1', AB.aiE, AB.agName, AB.agNil, AB.agCons, AB.agTup, AB.aTold, AB.aDrw, AB.aListR1, AB.aListR2, AB.aYes, AB.on1, AB.on2, AB.look, AB.lookAll, AB.datAll, AB.startS, AB.startR, AB.endA, AB.endR, AB.itemsD, AB.noOwn, AB.wipeS, AB.fAdd, AB.fSub, AB.fMul, AB.fDiv, AB.fMod, AB.fPow, AB.fShl, AB.fShr, AB.fAnd1, AB.fEq, AB.fNe, AB.fCmp, AB.fIs, AB.fIsNot, AB.fNeg, AB.fIx, AB.fSl, AB.fAbs, AB.fInt, AB.fMax2, AB.fMin2, AB.fLen, AB.fTupleOf, AB.fListOf, AB.fSum, AB.fLstRev, AB.isNoneD, AB.truD, AB.truOk, AB.isD_int_non, AB.isD_int_bl, AB.isD_int_int, AB.isD_int_str, AB.isD_int_lst, AB.isD_int_tup, AB.isD_bool_non, AB.isD_bool_bl, AB.isD_bool_int, AB.isD_bool_str, AB.isD_bool_lst, AB.isD_bool_tup, AB.isD_list_non, AB.isD_list_bl, AB.isD_list_int, AB.isD_list_str, AB.isD_list_lst, AB.isD_list_tup, AB.isD_tuple_non, AB.isD_tuple_bl, AB.isD_tuple_int, AB.isD_tuple_str, AB.isD_tuple_lst, AB.isD_tuple_tup, AB.isD_str_non, AB.isD_str_bl, AB.isD_str_int, AB.isD_str_str, AB.isD_str_lst, AB.isD_str_tup, List.map_cons, List.map_nil, List.length_cons, List.length_nil, List.replicate_succ, List.replicate_zero, List.cons_append, List.nil_append, List.append_nil, List.set_cons_zero, List.set_cons_succ, List.set_nil, List.getElem?_cons_zero, List.getElem?_cons_succ, List.getElem?_nil, Nat.sub_self, Nat.reduceAdd, Nat.reduceSub, Nat.zero_add, Nat.add_zero, Bool.false_eq_true, if_false, if_true, Bool.not_true, Bool.not_false, reduceIte]
  exact .inl ⟨l, o, rfl, hl, chI l o, rfl, Nat.le_trans (bf_le (chI_le l o)) (by omega), hp⟩
/-! cells -/
theorem cells_len (n : Nat) : ∀ w, (cells n w).length = w
  | 0 => rfl
  | w + 1 => by
    show (cells n w).length + 1 = _
    rw [cells_len n w]
theorem cells_get (n : Nat) : ∀ (w k : Nat), k < w → (cells n w)[k]? = some (.int ((n / 2 ^ (w - 1 - k) % 2 : Nat) : Int))
  | 0, k, h => by omega
  | w + 1, 0, _ => rfl
  | w + 1, k + 1, h => by
    show (cells n w)[k]? = _
    rw [cells_get n w k (by omega), show w + 1 - 1 - (k + 1) = w - 1 - k by omega]
theorem r_cells_of : ∀ ds Q Xe, ft_cells_of ds Q Xe → a_cells_of (endA Q Xe) (startS ["number", "width", "at"] ds) := by
  rintro ds Q Xe ⟨n, w, rfl, hw, hp⟩
  simp only [a_cells_of, AB.aSeq, AB.aAsg, AB.aIfS, AB.aDrop, AB.aRet, AB.aRetN, AB.aRetV, AB.aBrk, AB.aCt, AB.aFrz, AB.aApp, AB.aAug, AB.aRaise, AB.aPar, AB.aPar3, AB.aAsgT, AB.aNext, AB.aVar, AB.aC, AB.frz, AB.frzR, AB.toR, AB.aOp2, AB.aUn, AB.aNil, AB.aCons, AB.aCB, AB.aTB, AB.aTru, AB.aNotT, AB.aAndT, AB.aOrT, AB.aAndV, AB.aOrV, AB.aNotV, AB.aIf, AB.aChain, AB.aNoPart, AB.aPart, AB.aSl, AB.aTup, AB.aLst, AB.aCall, AB.aCallR, AB.aIsi, AB.aLc, AB.aFor, AB.aWhile, AB.aiR1, AB.aiR2, AB.aiR3, AB.aiU, AB.aiU.on1', AB.aiE, AB.agName, AB.agNil, AB.agCons, AB.agTup, AB.aTold, AB.aDrw, AB.aListR1, AB.aListR2, AB.aYes, AB.on1, AB.on2, AB.look, AB.lookAll, AB.datAll, AB.startS, AB.startR, AB.endA, AB.endR, AB.itemsD, AB.noOwn, AB.wipeS, AB.fAdd, AB.fSub, AB.fMul, AB.fDiv, AB.fMod, AB.fPow, AB.fShl, AB.fShr, AB.fAnd1, AB.fEq, AB.fNe, AB.fCmp, AB.fIs, AB.fIsNot, AB.fNeg, AB.fIx, AB.fSl, AB.fAbs, AB.fInt, AB.fMax2, AB.fMin2, AB.fLen, AB.fTupleOf, AB.fListOf, AB.fSum, AB.fLstRev, AB.isNoneD, AB.truD, AB.truOk, AB.isD_int_non, AB.isD_int_bl, AB.isD_int_int, AB.isD_int_str, AB.isD_int_lst, AB.isD_int_tup, AB.isD_bool_non, AB.isD_bool_bl, AB.isD_bool_int, AB.isD_bool_str, AB.isD_bool_lst, AB.isD_bool_tup, AB.isD_list_non, AB.isD_list_bl, AB.isD_list_int, AB.isD_list_str, AB.isD_list_lst, AB.isD_list_tup, AB.isD_tuple_non, AB.isD_tuple_bl, AB.isD_tuple_int, AB.isD_tuple_str, AB.isD_tuple_lst, AB.isD_tuple_tup, AB.isD_str_non, AB.isD_str_bl, AB.isD_str_int, AB.isD_str_str, AB.isD_str_lst, AB.isD_str_tup, List.map_cons, List.map_nil, List.length_cons, List.length_nil, List.replicate_succ, List.replicate_zero, List.cons_append, List.nil_append, List.append_nil, List.set_cons_zero, List.set_cons_succ, List.set_nil, List.getElem?_cons_zero, List.getElem?_cons_succ, List.getElem?_nil, Nat.sub_self, Nat.reduceAdd, Nat.reduceSub, Nat.zero_add, Nat.add_zero, Bool.false_eq_true, if_false, if_true, Bool.not_true, Bool.not_false, reduceIte]
  refine ⟨rfl, w, ?_, ?_, fun k acc => acc = (cells n w).take k, rfl, ?_, ?_⟩
  · have z := RgC.neg (i := (w : Int) - 1) (j := -1) (by omega) (by omega) (by omega) (by omega)
    rw [show ((w : Int) - 1 - -1).toNat = w by omega] at z
    exact z
  · rw [rangeC_len]
    omega
  · rintro k d acc hd rfl
    obtain ⟨hk, rfl⟩ := rangeC_get hd
    have e1 : ((w : Int) - 1 + (k : Int) * -1) = ((w - 1 - k : Nat) : Int) := by omega
    rw [e1]
    simp only [a_cells_of_1, AB.aSeq, AB.aAsg, AB.aIfS, AB.aDrop, AB.aRet, AB.aRetN, AB.aRetV, AB.aBrk, AB.aCt, AB.aFrz, AB.aApp, AB.aAug, AB.aRaise, AB.aPar, AB.aPar3, AB.aAsgT, AB.aNext, AB.aVar, AB.aC, AB.frz, AB.frzR, AB.toR, AB.aOp2, AB.aUn, AB.aNil, AB.aCons, AB.aCB, AB.aTB, AB.aTru, AB.aNotT, AB.aAndT, AB.aOrT, AB.aAndV, AB.aOrV, AB.aNotV, AB.aIf, AB.aChain, AB.aNoPart, AB.aPart, AB.aSl, AB.aTup, AB.aLst, AB.aCall, AB.aCallR, AB.aIsi, AB.aLc, AB.aFor, AB.aWhile, AB.aiR1, AB.aiR2, AB.aiR3, AB.aiU, AB.aiU.on1', AB.aiE, AB.agName, AB.agNil, AB.agCons, AB.agTup, AB.aTold, AB.aDrw, AB.aListR1, AB.aListR2, AB.aYes, AB.on1, AB.on2, AB.look, AB.lookAll, AB.datAll, AB.startS, AB.startR, AB.endA, AB.endR, AB.itemsD, AB.noOwn, AB.wipeS, AB.fAdd, AB.fSub, AB.fMul, AB.fDiv, AB.fMod, AB.fPow, AB.fShl, AB.fShr, AB.fAnd1, AB.fEq, AB.fNe, AB.fCmp, AB.fIs, AB.fIsNot, AB.fNeg, AB.fIx, AB.fSl, AB.fAbs, AB.fInt, AB.fMax2, AB.fMin2, AB.fLen, AB.fTupleOf, AB.fListOf, AB.fSum, AB.fLstRev, AB.isNoneD, AB.truD, AB.truOk, AB.isD_int_non, AB.isD_int_bl, AB.isD_int_int, AB.isD_int_str, AB.isD_int_lst, AB.isD_int_tup, AB.isD_bool_non, AB.isD_bool_bl, AB.isD_bool_int, AB.isD_bool_str, AB.isD_bool_lst, AB.isD_bool_tup, AB.isD_list_non, AB.isD_list_bl, AB.isD_list_int, AB.isD_list_str, AB.isD_list_lst, AB.isD_list_tup, AB.isD_tuple_non, AB.isD_tuple_bl, AB.isD_tuple_int, AB.isD_tuple_str, AB.isD_tuple_lst, AB.isD_tuple_tup, AB.isD_str_non, AB.isD_str_bl, AB.isD_str_int, AB.isD_str_str, AB.isD_str_lst, AB.isD_str_tup, List.map_cons, List.map_nil, List.length_cons, List.length_nil, List.replicate_succ, List.replicate_zero, List.cons_append, List.nil_append, List.append_nil, List.set_cons_zero, List.set_cons_succ, List.set_nil, List.getElem?_cons_zero, List.getElem?_cons_succ, List.getElem?_nil, Nat.sub_self, Nat.reduceAdd, Nat.reduceSub, Nat.zero_add, Nat.add_zero, Bool.false_eq_true, if_false, if_true, Bool.not_true, Bool.not_false, reduceIte]
    refine ⟨by omega, trivial, ?_⟩
    rw [List.take_succ, cells_get n w k hk]
    simp
  · rintro acc rfl
    rw [rangeC_len, List.take_of_length_le (by rw [cells_len]; omega)]
    exact hp
theorem r_number_of : ∀ ds Q Xe, ft_number_of ds Q Xe → a_number_of (endA Q Xe) (startS ["cells", "found", "bit"] ds) := by
  rintro ds Q Xe ⟨n, w, rfl, hp⟩
  simp only [a_number_of_r2, a_number_of, AB.aSeq, AB.aAsg, AB.aIfS, AB.aDrop, AB.aRet, AB.aRetN, AB.aRetV, AB.aBrk, AB.aCt, AB.aFrz, AB.aApp, AB.aAug, AB.aRaise, AB.aPar, AB.aPar3, AB.aAsgT, AB.aNext, AB.aVar, AB.aC, AB.frz, AB.frzR, AB.toR, AB.aOp2, AB.aUn, AB.aNil, AB.aCons, AB.aCB, AB.aTB, AB.aTru, AB.aNotT, AB.aAndT, AB.aOrT, AB.aAndV, AB.aOrV, AB.aNotV, AB.aIf, AB.aChain, AB.aNoPart, AB.aPart, AB.aSl, AB.aTup, AB.aLst, AB.aCall, AB.aCallR, AB.aIsi, AB.aLc, AB.aFor, AB.aWhile, AB.aiR1, AB.aiR2, AB.aiR3, AB.aiU, AB.aiU.on1', AB.aiE, AB.agName, AB.agNil, AB.agCons, AB.agTup, AB.aTold, AB.aDrw, AB.aListR1, AB.aListR2, AB.aYes, AB.on1, AB.on2, AB.look, AB.lookAll, AB.datAll, AB.startS, AB.startR, AB.endA, AB.endR, AB.itemsD, AB.noOwn, AB.wipeS, AB.fAdd, AB.fSub, AB.fMul, AB.fDiv, AB.fMod, AB.fPow, AB.fShl, AB.fShr, AB.fAnd1, AB.fEq, AB.fNe, AB.fCmp, AB.fIs, AB.fIsNot, AB.fNeg, AB.fIx, AB.fSl, AB.fAbs, AB.fInt, AB.fMax2, AB.fMin2, AB.fLen, AB.fTupleOf, AB.fListOf, AB.fSum, AB.fLstRev, AB.isNoneD, AB.truD, AB.truOk, AB.isD_int_non, AB.isD_int_bl, AB.isD_int_int, AB.isD_int_str, AB.isD_int_lst, AB.isD_int_tup, AB.isD_bool_non, AB.isD_bool_bl, AB.isD_bool_int, AB.isD_bool_str, AB.isD_bool_lst, AB.isD_bool_tup, AB.isD_list_non, AB.isD_list_bl, AB.isD_list_int, AB.isD_list_str, AB.isD_list_lst, AB.isD_list_tup, AB.isD_tuple_non, AB.isD_tuple_bl, AB.isD_tuple_int, AB.isD_tuple_str, AB.isD_tuple_lst, AB.isD_tuple_tup, AB.isD_str_non, AB.isD_str_bl, AB.isD_str_int, AB.isD_str_str, AB.isD_str_lst, AB.isD_str_tup, List.map_cons, List.map_nil, List.length_cons, List.length_nil, List.replicate_succ, List.replicate_zero, List.cons_append, List.nil_append, List.append_nil, List.set_cons_zero, List.set_cons_succ, List.set_nil, List.getElem?_cons_zero, List.getElem?_cons_succ, List.getElem?_nil, Nat.sub_self, Nat.reduceAdd, Nat.reduceSub, Nat.zero_add, Nat.add_zero, Bool.false_eq_true, if_false, if_true, Bool.not_true, Bool.not_false, reduceIte]
  refine ⟨fun k s => k ≤ w ∧ ∃ x, s = [.val (.tuple (cells n w)), .val (.int ((n / 2 ^ (w - k) % 2 ^ k : Nat) : Int)), x], ⟨by omega, .no, ?_⟩, ?_, ?_⟩
  · rw [Nat.pow_zero, Nat.mod_one]
    rfl
  · rintro k d s hd ⟨hk, x, rfl⟩
    have hk2 : k < w := by
      obtain ⟨z, _⟩ := List.getElem?_eq_some_iff.mp hd
      rw [cells_len] at z
      exact z
    rw [cells_get n w k hk2] at hd
    cases hd
    simp only [a_number_of_1, AB.aSeq, AB.aAsg, AB.aIfS, AB.aDrop, AB.aRet, AB.aRetN, AB.aRetV, AB.aBrk, AB.aCt, AB.aFrz, AB.aApp, AB.aAug, AB.aRaise, AB.aPar, AB.aPar3, AB.aAsgT, AB.aNext, AB.aVar, AB.aC, AB.frz, AB.frzR, AB.toR, AB.aOp2, AB.aUn, AB.aNil, AB.aCons, AB.aCB, AB.aTB, AB.aTru, AB.aNotT, AB.aAndT, AB.aOrT, AB.aAndV, AB.aOrV, AB.aNotV, AB.aIf, AB.aChain, AB.aNoPart, AB.aPart, AB.aSl, AB.aTup, AB.aLst, AB.aCall, AB.aCallR, AB.aIsi, AB.aLc, AB.aFor, AB.aWhile, AB.aiR1, AB.aiR2, AB.aiR3, AB.aiU, AB.aiU.on1', AB.aiE, AB.agName, AB.agNil, AB.agCons, AB.agTup, AB.aTold, AB.aDrw, AB.aListR1, AB.aListR2, AB.aYes, AB.on1, AB.on2, AB.look, AB.lookAll, AB.datAll, AB.startS, AB.startR, AB.endA, AB.endR, AB.itemsD, AB.noOwn, AB.wipeS, AB.fAdd, AB.fSub, AB.fMul, AB.fDiv, AB.fMod, AB.fPow, AB.fShl, AB.fShr, AB.fAnd1, AB.fEq, AB.fNe, AB.fCmp, AB.fIs, AB.fIsNot, AB.fNeg, AB.fIx, AB.fSl, AB.fAbs, AB.fInt, AB.fMax2, AB.fMin2, AB.fLen, AB.fTupleOf, AB.fListOf, AB.fSum, AB.fLstRev, AB.isNoneD, AB.truD, AB.truOk, AB.isD_int_non, AB.isD_int_bl, AB.isD_int_int, AB.isD_int_str, AB.isD_int_lst, AB.isD_int_tup, AB.isD_bool_non, AB.isD_bool_bl, AB.isD_bool_int, AB.isD_bool_str, AB.isD_bool_lst, AB.isD_bool_tup, AB.isD_list_non, AB.isD_list_bl, AB.isD_list_int, AB.isD_list_str, AB.isD_list_lst, AB.isD_list_tup, AB.isD_tuple_non, AB.isD_tuple_bl, AB.isD_tuple_int, AB.isD_tuple_str, AB.isD_tuple_lst, AB.isD_tuple_tup, AB.isD_str_non, AB.isD_str_bl, AB.isD_str_int, AB.isD_str_str, AB.isD_str_lst, AB.isD_str_tup, List.map_cons, List.map_nil, List.length_cons, List.length_nil, List.replicate_succ, List.replicate_zero, List.cons_append, List.nil_append, List.append_nil, List.set_cons_zero, List.set_cons_succ, List.set_nil, List.getElem?_cons_zero, List.getElem?_cons_succ, List.getElem?_nil, Nat.sub_self, Nat.reduceAdd, Nat.reduceSub, Nat.zero_add, Nat.add_zero, Bool.false_eq_true, if_false, if_true, Bool.not_true, Bool.not_false, reduceIte]
    refine ⟨mok_l (by omega) (by omega), by omega, .val (.int ((n / 2 ^ (w - 1 - k) % 2 : Nat) : Int)), ?_⟩
    have e : n / 2 ^ (w - (k + 1)) % 2 ^ (k + 1) = 2 * (n / 2 ^ (w - k) % 2 ^ k) + n / 2 ^ (w - 1 - k) % 2 := by
      have e1 : w - (k + 1) = w - 1 - k := by omega
      have e2 : n / 2 ^ (w - k) = n / 2 ^ (w - 1 - k) / 2 := by
        rw [Nat.div_div_eq_div_mul, ← Nat.pow_succ]
        congr 2
        omega
      rw [e1, e2, Nat.pow_succ, Nat.mul_comm (2 ^ k) 2, Nat.mod_mul]
      omega
    rw [e]
    simp
  · rintro s ⟨hk, x, rfl⟩
    rw [cells_len, Nat.sub_self, Nat.pow_zero, Nat.div_one]
    exact hp
end K15
namespace K15
open PySem PySem.Spec PyProof.Rows L2 AB
/-! ### the draws -/
theorem pow18 : ((10 : Int) ^ (18 : Int).toNat) = 1000000000000000000 := by decide
theorem map_app (ns : List Int) (n : Int) : ns.map PyData.int ++ [.int n] = (ns ++ [n]).map PyData.int := by
  rw [List.map_append]
  rfl
/-- the draws so far -/
def DrawsSo (m : Nat) (xs : List PyData) : Prop := ∃ ns : List Int, xs = ns.map PyData.int ∧ (∀ n ∈ ns, 0 ≤ n) ∧ ns.length ≤ m
theorem DrawsSo.add {m : Nat} {xs : List PyData} (h : DrawsSo m xs) {n : Int} (hn : 0 ≤ n) : DrawsSo (m + 1) (xs ++ [.int n]) := by
  obtain ⟨ns, rfl, h0, hl⟩ := h
  refine ⟨ns ++ [n], map_app ns n, fun x hx => ?_, by rw [List.length_append]; exact Nat.succ_le_succ hl⟩
  rcases List.mem_append.mp hx with h | h
  · exact h0 x h
  · rw [List.mem_singleton.mp h]
    exact hn
theorem DrawsSo.len {m : Nat} {xs : List PyData} (h : DrawsSo m xs) : xs.length ≤ m := by
  obtain ⟨ns, rfl, _, hl⟩ := h
  rw [List.length_map]
  exact hl
theorem DrawsSo.le {m k : Nat} {xs : List PyData} (h : DrawsSo m xs) (hk : m ≤ k) : DrawsSo k xs := by
  obtain ⟨ns, e, h0, hl⟩ := h
  exact ⟨ns, e, h0, Nat.le_trans hl hk⟩
theorem ite_abs (c : Int) : 0 ≤ (if c < 0 then -c else c) := by split <;> omega
theorem r_draws : ∀ ds Q Xe, ft_law_draws ds Q Xe → a__law_draws (endA Q Xe) (startS ["script", "draws", "cell", "number", "first", "k", "seed"] ds) := by
  rintro ds Q Xe ⟨ns, rfl, hl, hp⟩
  simp only [a__law_draws, scrD, AB.aSeq, AB.aAsg, AB.aIfS, AB.aDrop, AB.aRet, AB.aRetN, AB.aRetV, AB.aBrk, AB.aCt, AB.aFrz, AB.aApp, AB.aAug, AB.aRaise, AB.aPar, AB.aPar3, AB.aAsgT, AB.aNext, AB.aVar, AB.aC, AB.frz, AB.frzR, AB.toR, AB.aOp2, AB.aUn, AB.aNil, AB.aCons, AB.aCB, AB.aTB, AB.aTru, AB.aNotT, AB.aAndT, AB.aOrT, AB.aAndV, AB.aOrV, AB.aNotV, AB.aIf, AB.aChain, AB.aNoPart, AB.aPart, AB.aSl, AB.aTup, AB.aLst, AB.aCall, AB.aCallR, AB.aIsi, AB.aLc, AB.aFor, AB.aWhile, AB.aiR1, AB.aiR2, AB.aiR3, AB.aiU, AB.aiU.on1', AB.aiE, AB.agName, AB.agNil, AB.agCons, AB.agTup, AB.aTold, AB.aDrw, AB.aListR1, AB.aListR2, AB.aYes, AB.on1, AB.on2, AB.look, AB.lookAll, AB.datAll, AB.startS, AB.startR, AB.endA, AB.endR, AB.itemsD, AB.noOwn, AB.wipeS, AB.fAdd, AB.fSub, AB.fMul, AB.fDiv, AB.fMod, AB.fPow, AB.fShl, AB.fShr, AB.fAnd1, AB.fEq, AB.fNe, AB.fCmp, AB.fIs, AB.fIsNot, AB.fNeg, AB.fIx, AB.fSl, AB.fAbs, AB.fInt, AB.fMax2, AB.fMin2, AB.fLen, AB.fTupleOf, AB.fListOf, AB.fSum, AB.fLstRev, AB.isNoneD, AB.truD, AB.truOk, AB.isD_int_non, AB.isD_int_bl, AB.isD_int_int, AB.isD_int_str, AB.isD_int_lst, AB.isD_int_tup, AB.isD_bool_non, AB.isD_bool_bl, AB.isD_bool_int, AB.isD_bool_str, AB.isD_bool_lst, AB.isD_bool_tup, AB.isD_list_non, AB.isD_list_bl, AB.isD_list_int, AB.isD_list_str, AB.isD_list_lst, AB.isD_list_tup, AB.isD_tuple_non, AB.isD_tuple_bl, AB.isD_tuple_int, AB.isD_tuple_str, AB.isD_tuple_lst, AB.isD_tuple_tup, AB.isD_str_non, AB.isD_str_bl, AB.isD_str_int, AB.isD_str_str, AB.isD_str_lst, AB.isD_str_tup, List.map_cons, List.map_nil, List.length_cons, List.length_nil, List.replicate_succ, List.replicate_zero, List.cons_append, List.nil_append, List.append_nil, List.set_cons_zero, List.set_cons_succ, List.set_nil, List.getElem?_cons_zero, List.getElem?_cons_succ, List.getElem?_nil, Nat.sub_self, Nat.reduceAdd, Nat.reduceSub, Nat.zero_add, Nat.add_zero, Bool.false_eq_true, if_false, if_true, Bool.not_true, Bool.not_false, reduceIte]
  refine ⟨by decide, fun i s => i ≤ ns.length ∧ ∃ (xs : List PyData) (s2 s3 s4 s5 s6 : SV), DrawsSo (62 * i) xs ∧ s = [.val (scrD ns), .lst xs, s2, s3, s4, s5, s6], ⟨by omega, [], .no, .no, .no, .no, .no, ⟨[], rfl, by simp, by simp⟩, rfl⟩, ?_, ?_⟩
  · rintro i d s hd ⟨hi, xs, s2, s3, s4, s5, s6, hx, rfl⟩
    rw [List.getElem?_map] at hd
    obtain ⟨c, hc, rfl⟩ := Option.map_eq_some_iff.mp hd
    have hin : i < ns.length := (List.getElem?_eq_some_iff.mp hc).1
    have hz := hx.len
    have h0 := ite_abs c
    simp only [a__law_draws_3, AB.aSeq, AB.aAsg, AB.aIfS, AB.aDrop, AB.aRet, AB.aRetN, AB.aRetV, AB.aBrk, AB.aCt, AB.aFrz, AB.aApp, AB.aAug, AB.aRaise, AB.aPar, AB.aPar3, AB.aAsgT, AB.aNext, AB.aVar, AB.aC, AB.frz, AB.frzR, AB.toR, AB.aOp2, AB.aUn, AB.aNil, AB.aCons, AB.aCB, AB.aTB, AB.aTru, AB.aNotT, AB.aAndT, AB.aOrT, AB.aAndV, AB.aOrV, AB.aNotV, AB.aIf, AB.aChain, AB.aNoPart, AB.aPart, AB.aSl, AB.aTup, AB.aLst, AB.aCall, AB.aCallR, AB.aIsi, AB.aLc, AB.aFor, AB.aWhile, AB.aiR1, AB.aiR2, AB.aiR3, AB.aiU, AB.aiU.on1', AB.aiE, AB.agName, AB.agNil, AB.agCons, AB.agTup, AB.aTold, AB.aDrw, AB.aListR1, AB.aListR2, AB.aYes, AB.on1, AB.on2, AB.look, AB.lookAll, AB.datAll, AB.startS, AB.startR, AB.endA, AB.endR, AB.itemsD, AB.noOwn, AB.wipeS, AB.fAdd, AB.fSub, AB.fMul, AB.fDiv, AB.fMod, AB.fPow, AB.fShl, AB.fShr, AB.fAnd1, AB.fEq, AB.fNe, AB.fCmp, AB.fIs, AB.fIsNot, AB.fNeg, AB.fIx, AB.fSl, AB.fAbs, AB.fInt, AB.fMax2, AB.fMin2, AB.fLen, AB.fTupleOf, AB.fListOf, AB.fSum, AB.fLstRev, AB.isNoneD, AB.truD, AB.truOk, AB.isD_int_non, AB.isD_int_bl, AB.isD_int_int, AB.isD_int_str, AB.isD_int_lst, AB.isD_int_tup, AB.isD_bool_non, AB.isD_bool_bl, AB.isD_bool_int, AB.isD_bool_str, AB.isD_bool_lst, AB.isD_bool_tup, AB.isD_list_non, AB.isD_list_bl, AB.isD_list_int, AB.isD_list_str, AB.isD_list_lst, AB.isD_list_tup, AB.isD_tuple_non, AB.isD_tuple_bl, AB.isD_tuple_int, AB.isD_tuple_str, AB.isD_tuple_lst, AB.isD_tuple_tup, AB.isD_str_non, AB.isD_str_bl, AB.isD_str_int, AB.isD_str_str, AB.isD_str_lst, AB.isD_str_tup, List.map_cons, List.map_nil, List.length_cons, List.length_nil, List.replicate_succ, List.replicate_zero, List.cons_append, List.nil_append, List.append_nil, List.set_cons_zero, List.set_cons_succ, List.set_nil, List.getElem?_cons_zero, List.getElem?_cons_succ, List.getElem?_nil, Nat.sub_self, Nat.reduceAdd, Nat.reduceSub, Nat.zero_add, Nat.add_zero, Bool.false_eq_true, if_false, if_true, Bool.not_true, Bool.not_false, reduceIte]
    generalize (if c < 0 then -c else c) = n at h0 ⊢
    rw [pow18]
    have inner : ∀ (A : AD) (n : Int) (xs : List PyData) (s4 : SV), (∀ s, (i + 1 ≤ ns.length ∧ ∃ (xs : List PyData) (s2 s3 s4 s5 s6 : SV), DrawsSo (62 * (i + 1)) xs ∧ s = [.val (scrD ns), .lst xs, s2, s3, s4, s5, s6]) → A.nx s) → 0 ≤ n → DrawsSo (62 * i + 2) xs → a__law_draws_r2 A [.val (scrD ns), .lst xs, .val (.int c), .val (.int n), s4, s5, s6] := by
      intro A n xs s4 hA hn hx
      simp only [a__law_draws_r2, AB.aSeq, AB.aAsg, AB.aIfS, AB.aDrop, AB.aRet, AB.aRetN, AB.aRetV, AB.aBrk, AB.aCt, AB.aFrz, AB.aApp, AB.aAug, AB.aRaise, AB.aPar, AB.aPar3, AB.aAsgT, AB.aNext, AB.aVar, AB.aC, AB.frz, AB.frzR, AB.toR, AB.aOp2, AB.aUn, AB.aNil, AB.aCons, AB.aCB, AB.aTB, AB.aTru, AB.aNotT, AB.aAndT, AB.aOrT, AB.aAndV, AB.aOrV, AB.aNotV, AB.aIf, AB.aChain, AB.aNoPart, AB.aPart, AB.aSl, AB.aTup, AB.aLst, AB.aCall, AB.aCallR, AB.aIsi, AB.aLc, AB.aFor, AB.aWhile, AB.aiR1, AB.aiR2, AB.aiR3, AB.aiU, AB.aiU.on1', AB.aiE, AB.agName, AB.agNil, AB.agCons, AB.agTup, AB.aTold, AB.aDrw, AB.aListR1, AB.aListR2, AB.aYes, AB.on1, AB.on2, AB.look, AB.lookAll, AB.datAll, AB.startS, AB.startR, AB.endA, AB.endR, AB.itemsD, AB.noOwn, AB.wipeS, AB.fAdd, AB.fSub, AB.fMul, AB.fDiv, AB.fMod, AB.fPow, AB.fShl, AB.fShr, AB.fAnd1, AB.fEq, AB.fNe, AB.fCmp, AB.fIs, AB.fIsNot, AB.fNeg, AB.fIx, AB.fSl, AB.fAbs, AB.fInt, AB.fMax2, AB.fMin2, AB.fLen, AB.fTupleOf, AB.fListOf, AB.fSum, AB.fLstRev, AB.isNoneD, AB.truD, AB.truOk, AB.isD_int_non, AB.isD_int_bl, AB.isD_int_int, AB.isD_int_str, AB.isD_int_lst, AB.isD_int_tup, AB.isD_bool_non, AB.isD_bool_bl, AB.isD_bool_int, AB.isD_bool_str, AB.isD_bool_lst, AB.isD_bool_tup, AB.isD_list_non, AB.isD_list_bl, AB.isD_list_int, AB.isD_list_str, AB.isD_list_lst, AB.isD_list_tup, AB.isD_tuple_non, AB.isD_tuple_bl, AB.isD_tuple_int, AB.isD_tuple_str, AB.isD_tuple_lst, AB.isD_tuple_tup, AB.isD_str_non, AB.isD_str_bl, AB.isD_str_int, AB.isD_str_str, AB.isD_str_lst, AB.isD_str_tup, List.map_cons, List.map_nil, List.length_cons, List.length_nil, List.replicate_succ, List.replicate_zero, List.cons_append, List.nil_append, List.append_nil, List.set_cons_zero, List.set_cons_succ, List.set_nil, List.getElem?_cons_zero, List.getElem?_cons_succ, List.getElem?_nil, Nat.sub_self, Nat.reduceAdd, Nat.reduceSub, Nat.zero_add, Nat.add_zero, Bool.false_eq_true, if_false, if_true, Bool.not_true, Bool.not_false, reduceIte]
      refine ⟨by decide, by decide, fun k s => k ≤ 60 ∧ ∃ (m : Int) (xs : List PyData) (s5 : SV), 0 ≤ m ∧ DrawsSo (62 * i + 2 + k) xs ∧ s = [.val (scrD ns), .lst xs, .val (.int c), .val (.int m), s4, s5, s6], ⟨by omega, n, xs, s5, hn, hx, rfl⟩, ?_, ?_⟩
      · rintro k d s hd ⟨hk, m, ys, s5, hm, hy, rfl⟩
        obtain ⟨hk2, rfl⟩ := rangeD_get hd
        have hk3 : k < 60 := hk2
        have hz := hy.len
        simp only [a__law_draws_1, AB.aSeq, AB.aAsg, AB.aIfS, AB.aDrop, AB.aRet, AB.aRetN, AB.aRetV, AB.aBrk, AB.aCt, AB.aFrz, AB.aApp, AB.aAug, AB.aRaise, AB.aPar, AB.aPar3, AB.aAsgT, AB.aNext, AB.aVar, AB.aC, AB.frz, AB.frzR, AB.toR, AB.aOp2, AB.aUn, AB.aNil, AB.aCons, AB.aCB, AB.aTB, AB.aTru, AB.aNotT, AB.aAndT, AB.aOrT, AB.aAndV, AB.aOrV, AB.aNotV, AB.aIf, AB.aChain, AB.aNoPart, AB.aPart, AB.aSl, AB.aTup, AB.aLst, AB.aCall, AB.aCallR, AB.aIsi, AB.aLc, AB.aFor, AB.aWhile, AB.aiR1, AB.aiR2, AB.aiR3, AB.aiU, AB.aiU.on1', AB.aiE, AB.agName, AB.agNil, AB.agCons, AB.agTup, AB.aTold, AB.aDrw, AB.aListR1, AB.aListR2, AB.aYes, AB.on1, AB.on2, AB.look, AB.lookAll, AB.datAll, AB.startS, AB.startR, AB.endA, AB.endR, AB.itemsD, AB.noOwn, AB.wipeS, AB.fAdd, AB.fSub, AB.fMul, AB.fDiv, AB.fMod, AB.fPow, AB.fShl, AB.fShr, AB.fAnd1, AB.fEq, AB.fNe, AB.fCmp, AB.fIs, AB.fIsNot, AB.fNeg, AB.fIx, AB.fSl, AB.fAbs, AB.fInt, AB.fMax2, AB.fMin2, AB.fLen, AB.fTupleOf, AB.fListOf, AB.fSum, AB.fLstRev, AB.isNoneD, AB.truD, AB.truOk, AB.isD_int_non, AB.isD_int_bl, AB.isD_int_int, AB.isD_int_str, AB.isD_int_lst, AB.isD_int_tup, AB.isD_bool_non, AB.isD_bool_bl, AB.isD_bool_int, AB.isD_bool_str, AB.isD_bool_lst, AB.isD_bool_tup, AB.isD_list_non, AB.isD_list_bl, AB.isD_list_int, AB.isD_list_str, AB.isD_list_lst, AB.isD_list_tup, AB.isD_tuple_non, AB.isD_tuple_bl, AB.isD_tuple_int, AB.isD_tuple_str, AB.isD_tuple_lst, AB.isD_tuple_tup, AB.isD_str_non, AB.isD_str_bl, AB.isD_str_int, AB.isD_str_str, AB.isD_str_lst, AB.isD_str_tup, List.map_cons, List.map_nil, List.length_cons, List.length_nil, List.replicate_succ, List.replicate_zero, List.cons_append, List.nil_append, List.append_nil, List.set_cons_zero, List.set_cons_succ, List.set_nil, List.getElem?_cons_zero, List.getElem?_cons_succ, List.getElem?_nil, Nat.sub_self, Nat.reduceAdd, Nat.reduceSub, Nat.zero_add, Nat.add_zero, Bool.false_eq_true, if_false, if_true, Bool.not_true, Bool.not_false, reduceIte, decide_eq_true_eq]
        by_cases h : 0 < m
        · rw [if_pos h]
          refine ⟨by decide, by omega, dok (by decide) (by decide), by omega, m / 997, _, _, Int.ediv_nonneg hm (by decide), hy.add (Int.emod_nonneg _ (by decide)), rfl⟩
        · rw [if_neg h]
          exact ⟨by omega, m, ys, _, hm, hy.le (by omega), rfl⟩
      · rintro s ⟨_, m, ys, s5, hm, hy, rfl⟩
        refine hA _ ⟨by omega, ys, _, _, _, _, _, hy.le ?_, rfl⟩
        show 62 * i + 2 + 60 ≤ _
        omega
    refine ⟨⟨by decide, by decide, by decide⟩, ?_⟩
    by_cases hlt : n < 1000000000000000000
    · rw [if_pos (decide_eq_true hlt)]
      refine ⟨mok_r (by decide) (by decide), by decide, mok_r (by decide) (by decide), by decide, by omega, dok (by decide) (by decide), by decide, ?_, ?_⟩
      · rw [List.length_append]
        show xs.length + 1 < _
        omega
      · exact inner _ 0 _ _ (fun s h => h) (by omega) ((hx.add (Int.emod_nonneg _ (by decide))).add (Int.emod_nonneg _ (by decide)))
    · rw [if_neg (by rw [decide_eq_false hlt]; exact Bool.false_ne_true)]
      exact inner _ n _ _ (fun s h => h) h0 (hx.le (by omega))
  · rintro s ⟨_, xs, s2, s3, s4, s5, s6, hx, rfl⟩
    rw [List.length_map] at hx
    have hz := hx.len
    have tail : ∀ seed : Int, 0 ≤ seed → a__law_draws_r6 (endA Q Xe) [.val (scrD ns), .lst xs, s2, s3, s4, s5, .val (.int seed)] := by
      intro seed hs
      simp only [a__law_draws_r6, AB.aSeq, AB.aAsg, AB.aIfS, AB.aDrop, AB.aRet, AB.aRetN, AB.aRetV, AB.aBrk, AB.aCt, AB.aFrz, AB.aApp, AB.aAug, AB.aRaise, AB.aPar, AB.aPar3, AB.aAsgT, AB.aNext, AB.aVar, AB.aC, AB.frz, AB.frzR, AB.toR, AB.aOp2, AB.aUn, AB.aNil, AB.aCons, AB.aCB, AB.aTB, AB.aTru, AB.aNotT, AB.aAndT, AB.aOrT, AB.aAndV, AB.aOrV, AB.aNotV, AB.aIf, AB.aChain, AB.aNoPart, AB.aPart, AB.aSl, AB.aTup, AB.aLst, AB.aCall, AB.aCallR, AB.aIsi, AB.aLc, AB.aFor, AB.aWhile, AB.aiR1, AB.aiR2, AB.aiR3, AB.aiU, AB.aiU.on1', AB.aiE, AB.agName, AB.agNil, AB.agCons, AB.agTup, AB.aTold, AB.aDrw, AB.aListR1, AB.aListR2, AB.aYes, AB.on1, AB.on2, AB.look, AB.lookAll, AB.datAll, AB.startS, AB.startR, AB.endA, AB.endR, AB.itemsD, AB.noOwn, AB.wipeS, AB.fAdd, AB.fSub, AB.fMul, AB.fDiv, AB.fMod, AB.fPow, AB.fShl, AB.fShr, AB.fAnd1, AB.fEq, AB.fNe, AB.fCmp, AB.fIs, AB.fIsNot, AB.fNeg, AB.fIx, AB.fSl, AB.fAbs, AB.fInt, AB.fMax2, AB.fMin2, AB.fLen, AB.fTupleOf, AB.fListOf, AB.fSum, AB.fLstRev, AB.isNoneD, AB.truD, AB.truOk, AB.isD_int_non, AB.isD_int_bl, AB.isD_int_int, AB.isD_int_str, AB.isD_int_lst, AB.isD_int_tup, AB.isD_bool_non, AB.isD_bool_bl, AB.isD_bool_int, AB.isD_bool_str, AB.isD_bool_lst, AB.isD_bool_tup, AB.isD_list_non, AB.isD_list_bl, AB.isD_list_int, AB.isD_list_str, AB.isD_list_lst, AB.isD_list_tup, AB.isD_tuple_non, AB.isD_tuple_bl, AB.isD_tuple_int, AB.isD_tuple_str, AB.isD_tuple_lst, AB.isD_tuple_tup, AB.isD_str_non, AB.isD_str_bl, AB.isD_str_int, AB.isD_str_str, AB.isD_str_lst, AB.isD_str_tup, List.map_cons, List.map_nil, List.length_cons, List.length_nil, List.replicate_succ, List.replicate_zero, List.cons_append, List.nil_append, List.append_nil, List.set_cons_zero, List.set_cons_succ, List.set_nil, List.getElem?_cons_zero, List.getElem?_cons_succ, List.getElem?_nil, Nat.sub_self, Nat.reduceAdd, Nat.reduceSub, Nat.zero_add, Nat.add_zero, Bool.false_eq_true, if_false, if_true, Bool.not_true, Bool.not_false, reduceIte]
      refine ⟨by decide, by decide, fun k s => k ≤ 900 ∧ ∃ (m : Int) (xs : List PyData) (s5 : SV), 0 ≤ m ∧ DrawsSo (62 * ns.length + k) xs ∧ s = [.val (scrD ns), .lst xs, s2, s3, s4, s5, .val (.int m)], ⟨by omega, seed, xs, s5, hs, hx, rfl⟩, ?_, ?_⟩
      · rintro k d s hd ⟨hk, m, ys, s5, hm, hy, rfl⟩
        obtain ⟨hk2, rfl⟩ := rangeD_get hd
        have hk3 : k < 900 := hk2
        have hz := hy.len
        simp only [a__law_draws_4, AB.aSeq, AB.aAsg, AB.aIfS, AB.aDrop, AB.aRet, AB.aRetN, AB.aRetV, AB.aBrk, AB.aCt, AB.aFrz, AB.aApp, AB.aAug, AB.aRaise, AB.aPar, AB.aPar3, AB.aAsgT, AB.aNext, AB.aVar, AB.aC, AB.frz, AB.frzR, AB.toR, AB.aOp2, AB.aUn, AB.aNil, AB.aCons, AB.aCB, AB.aTB, AB.aTru, AB.aNotT, AB.aAndT, AB.aOrT, AB.aAndV, AB.aOrV, AB.aNotV, AB.aIf, AB.aChain, AB.aNoPart, AB.aPart, AB.aSl, AB.aTup, AB.aLst, AB.aCall, AB.aCallR, AB.aIsi, AB.aLc, AB.aFor, AB.aWhile, AB.aiR1, AB.aiR2, AB.aiR3, AB.aiU, AB.aiU.on1', AB.aiE, AB.agName, AB.agNil, AB.agCons, AB.agTup, AB.aTold, AB.aDrw, AB.aListR1, AB.aListR2, AB.aYes, AB.on1, AB.on2, AB.look, AB.lookAll, AB.datAll, AB.startS, AB.startR, AB.endA, AB.endR, AB.itemsD, AB.noOwn, AB.wipeS, AB.fAdd, AB.fSub, AB.fMul, AB.fDiv, AB.fMod, AB.fPow, AB.fShl, AB.fShr, AB.fAnd1, AB.fEq, AB.fNe, AB.fCmp, AB.fIs, AB.fIsNot, AB.fNeg, AB.fIx, AB.fSl, AB.fAbs, AB.fInt, AB.fMax2, AB.fMin2, AB.fLen, AB.fTupleOf, AB.fListOf, AB.fSum, AB.fLstRev, AB.isNoneD, AB.truD, AB.truOk, AB.isD_int_non, AB.isD_int_bl, AB.isD_int_int, AB.isD_int_str, AB.isD_int_lst, AB.isD_int_tup, AB.isD_bool_non, AB.isD_bool_bl, AB.isD_bool_int, AB.isD_bool_str, AB.isD_bool_lst, AB.isD_bool_tup, AB.isD_list_non, AB.isD_list_bl, AB.isD_list_int, AB.isD_list_str, AB.isD_list_lst, AB.isD_list_tup, AB.isD_tuple_non, AB.isD_tuple_bl, AB.isD_tuple_int, AB.isD_tuple_str, AB.isD_tuple_lst, AB.isD_tuple_tup, AB.isD_str_non, AB.isD_str_bl, AB.isD_str_int, AB.isD_str_str, AB.isD_str_lst, AB.isD_str_tup, List.map_cons, List.map_nil, List.length_cons, List.length_nil, List.replicate_succ, List.replicate_zero, List.cons_append, List.nil_append, List.append_nil, List.set_cons_zero, List.set_cons_succ, List.set_nil, List.getElem?_cons_zero, List.getElem?_cons_succ, List.getElem?_nil, Nat.sub_self, Nat.reduceAdd, Nat.reduceSub, Nat.zero_add, Nat.add_zero, Bool.false_eq_true, if_false, if_true, Bool.not_true, Bool.not_false, reduceIte]
        have h1 : 0 ≤ (m * 48271 + 69621) % 2147483647 := Int.emod_nonneg _ (by decide)
        exact ⟨mok_r (by decide) (by decide), by decide, dok (by decide) (by decide), by omega, by omega, _, _, _, h1, hy.add (Int.ediv_nonneg h1 (by decide)), rfl⟩
      · rintro s ⟨_, m, ys, s5, hm, hy, rfl⟩
        obtain ⟨ms, rfl, h0, hl2⟩ := hy
        simp only [a__law_draws_r5, AB.aSeq, AB.aAsg, AB.aIfS, AB.aDrop, AB.aRet, AB.aRetN, AB.aRetV, AB.aBrk, AB.aCt, AB.aFrz, AB.aApp, AB.aAug, AB.aRaise, AB.aPar, AB.aPar3, AB.aAsgT, AB.aNext, AB.aVar, AB.aC, AB.frz, AB.frzR, AB.toR, AB.aOp2, AB.aUn, AB.aNil, AB.aCons, AB.aCB, AB.aTB, AB.aTru, AB.aNotT, AB.aAndT, AB.aOrT, AB.aAndV, AB.aOrV, AB.aNotV, AB.aIf, AB.aChain, AB.aNoPart, AB.aPart, AB.aSl, AB.aTup, AB.aLst, AB.aCall, AB.aCallR, AB.aIsi, AB.aLc, AB.aFor, AB.aWhile, AB.aiR1, AB.aiR2, AB.aiR3, AB.aiU, AB.aiU.on1', AB.aiE, AB.agName, AB.agNil, AB.agCons, AB.agTup, AB.aTold, AB.aDrw, AB.aListR1, AB.aListR2, AB.aYes, AB.on1, AB.on2, AB.look, AB.lookAll, AB.datAll, AB.startS, AB.startR, AB.endA, AB.endR, AB.itemsD, AB.noOwn, AB.wipeS, AB.fAdd, AB.fSub, AB.fMul, AB.fDiv, AB.fMod, AB.fPow, AB.fShl, AB.fShr, AB.fAnd1, AB.fEq, AB.fNe, AB.fCmp, AB.fIs, AB.fIsNot, AB.fNeg, AB.fIx, AB.fSl, AB.fAbs, AB.fInt, AB.fMax2, AB.fMin2, AB.fLen, AB.fTupleOf, AB.fListOf, AB.fSum, AB.fLstRev, AB.isNoneD, AB.truD, AB.truOk, AB.isD_int_non, AB.isD_int_bl, AB.isD_int_int, AB.isD_int_str, AB.isD_int_lst, AB.isD_int_tup, AB.isD_bool_non, AB.isD_bool_bl, AB.isD_bool_int, AB.isD_bool_str, AB.isD_bool_lst, AB.isD_bool_tup, AB.isD_list_non, AB.isD_list_bl, AB.isD_list_int, AB.isD_list_str, AB.isD_list_lst, AB.isD_list_tup, AB.isD_tuple_non, AB.isD_tuple_bl, AB.isD_tuple_int, AB.isD_tuple_str, AB.isD_tuple_lst, AB.isD_tuple_tup, AB.isD_str_non, AB.isD_str_bl, AB.isD_str_int, AB.isD_str_str, AB.isD_str_lst, AB.isD_str_tup, List.map_cons, List.map_nil, List.length_cons, List.length_nil, List.replicate_succ, List.replicate_zero, List.cons_append, List.nil_append, List.append_nil, List.set_cons_zero, List.set_cons_succ, List.set_nil, List.getElem?_cons_zero, List.getElem?_cons_succ, List.getElem?_nil, Nat.sub_self, Nat.reduceAdd, Nat.reduceSub, Nat.zero_add, Nat.add_zero, Bool.false_eq_true, if_false, if_true, Bool.not_true, Bool.not_false, reduceIte]
        refine ⟨ms.reverse, by rw [List.map_reverse], fun n hn => h0 n (List.mem_reverse.mp hn), ?_, hp⟩
        rw [List.length_reverse]
        have e : (rangeD 0 (900 : Int).toNat).length = 900 := rangeD_len _ _
        omega
    simp only [a__law_draws_r7, scrD, AB.aSeq, AB.aAsg, AB.aIfS, AB.aDrop, AB.aRet, AB.aRetN, AB.aRetV, AB.aBrk, AB.aCt, AB.aFrz, AB.aApp, AB.aAug, AB.aRaise, AB.aPar, AB.aPar3, AB.aAsgT, AB.aNext, AB.aVar, AB.aC, AB.frz, AB.frzR, AB.toR, AB.aOp2, AB.aUn, AB.aNil, AB.aCons, AB.aCB, AB.aTB, AB.aTru, AB.aNotT, AB.aAndT, AB.aOrT, AB.aAndV, AB.aOrV, AB.aNotV, AB.aIf, AB.aChain, AB.aNoPart, AB.aPart, AB.aSl, AB.aTup, AB.aLst, AB.aCall, AB.aCallR, AB.aIsi, AB.aLc, AB.aFor, AB.aWhile, AB.aiR1, AB.aiR2, AB.aiR3, AB.aiU, AB.aiU.on1', AB.aiE, AB.agName, AB.agNil, AB.agCons, AB.agTup, AB.aTold, AB.aDrw, AB.aListR1, AB.aListR2, AB.aYes, AB.on1, AB.on2, AB.look, AB.lookAll, AB.datAll, AB.startS, AB.startR, AB.endA, AB.endR, AB.itemsD, AB.noOwn, AB.wipeS, AB.fAdd, AB.fSub, AB.fMul, AB.fDiv, AB.fMod, AB.fPow, AB.fShl, AB.fShr, AB.fAnd1, AB.fEq, AB.fNe, AB.fCmp, AB.fIs, AB.fIsNot, AB.fNeg, AB.fIx, AB.fSl, AB.fAbs, AB.fInt, AB.fMax2, AB.fMin2, AB.fLen, AB.fTupleOf, AB.fListOf, AB.fSum, AB.fLstRev, AB.isNoneD, AB.truD, AB.truOk, AB.isD_int_non, AB.isD_int_bl, AB.isD_int_int, AB.isD_int_str, AB.isD_int_lst, AB.isD_int_tup, AB.isD_bool_non, AB.isD_bool_bl, AB.isD_bool_int, AB.isD_bool_str, AB.isD_bool_lst, AB.isD_bool_tup, AB.isD_list_non, AB.isD_list_bl, AB.isD_list_int, AB.isD_list_str, AB.isD_list_lst, AB.isD_list_tup, AB.isD_tuple_non, AB.isD_tuple_bl, AB.isD_tuple_int, AB.isD_tuple_str, AB.isD_tuple_lst, AB.isD_tuple_tup, AB.isD_str_non, AB.isD_str_bl, AB.isD_str_int, AB.isD_str_str, AB.isD_str_lst, AB.isD_str_tup, List.map_cons, List.map_nil, List.length_cons, List.length_nil, List.replicate_succ, List.replicate_zero, List.cons_append, List.nil_append, List.append_nil, List.set_cons_zero, List.set_cons_succ, List.set_nil, List.getElem?_cons_zero, List.getElem?_cons_succ, List.getElem?_nil, Nat.sub_self, Nat.reduceAdd, Nat.reduceSub, Nat.zero_add, Nat.add_zero, Bool.false_eq_true, if_false, if_true, Bool.not_true, Bool.not_false, reduceIte, decide_eq_true_eq]
    rw [List.length_map]
    by_cases h : 0 < (ns.length : Int)
    · rw [if_pos h]
      obtain ⟨c, r, rfl⟩ : ∃ c r, ns = c :: r := by
        cases ns with
        | nil => exact absurd h (by decide)
        | cons c r => exact ⟨c, r, rfl⟩
      refine ⟨.int c, atI_nat (j := 0) rfl, ?_⟩
      have h0 := ite_abs c
      exact tail _ (by omega)
    · rw [if_neg h]
      exact tail 1 (by decide)
/-! ### the law's own defs -/
theorem r_says : ∀ ds Q Xe, ft_law_says ds Q Xe → a__law_says (endA Q Xe) (startS ["told", "due"] ds) := by
  rintro ds Q Xe ⟨b, rfl, hp⟩
  simp only [a__law_says, AB.aSeq, AB.aAsg, AB.aIfS, AB.aDrop, AB.aRet, AB.aRetN, AB.aRetV, AB.aBrk, AB.aCt, AB.aFrz, AB.aApp, AB.aAug, AB.aRaise, AB.aPar, AB.aPar3, AB.aAsgT, AB.aNext, AB.aVar, AB.aC, AB.frz, AB.frzR, AB.toR, AB.aOp2, AB.aUn, AB.aNil, AB.aCons, AB.aCB, AB.aTB, AB.aTru, AB.aNotT, AB.aAndT, AB.aOrT, AB.aAndV, AB.aOrV, AB.aNotV, AB.aIf, AB.aChain, AB.aNoPart, AB.aPart, AB.aSl, AB.aTup, AB.aLst, AB.aCall, AB.aCallR, AB.aIsi, AB.aLc, AB.aFor, AB.aWhile, AB.aiR1, AB.aiR2, AB.aiR3, AB.aiU, AB.aiU.on1', AB.aiE, AB.agName, AB.agNil, AB.agCons, AB.agTup, AB.aTold, AB.aDrw, AB.aListR1, AB.aListR2, AB.aYes, AB.on1, AB.on2, AB.look, AB.lookAll, AB.datAll, AB.startS, AB.startR, AB.endA, AB.endR, AB.itemsD, AB.noOwn, AB.wipeS, AB.fAdd, AB.fSub, AB.fMul, AB.fDiv, AB.fMod, AB.fPow, AB.fShl, AB.fShr, AB.fAnd1, AB.fEq, AB.fNe, AB.fCmp, AB.fIs, AB.fIsNot, AB.fNeg, AB.fIx, AB.fSl, AB.fAbs, AB.fInt, AB.fMax2, AB.fMin2, AB.fLen, AB.fTupleOf, AB.fListOf, AB.fSum, AB.fLstRev, AB.isNoneD, AB.truD, AB.truOk, AB.isD_int_non, AB.isD_int_bl, AB.isD_int_int, AB.isD_int_str, AB.isD_int_lst, AB.isD_int_tup, AB.isD_bool_non, AB.isD_bool_bl, AB.isD_bool_int, AB.isD_bool_str, AB.isD_bool_lst, AB.isD_bool_tup, AB.isD_list_non, AB.isD_list_bl, AB.isD_list_int, AB.isD_list_str, AB.isD_list_lst, AB.isD_list_tup, AB.isD_tuple_non, AB.isD_tuple_bl, AB.isD_tuple_int, AB.isD_tuple_str, AB.isD_tuple_lst, AB.isD_tuple_tup, AB.isD_str_non, AB.isD_str_bl, AB.isD_str_int, AB.isD_str_str, AB.isD_str_lst, AB.isD_str_tup, List.map_cons, List.map_nil, List.length_cons, List.length_nil, List.replicate_succ, List.replicate_zero, List.cons_append, List.nil_append, List.append_nil, List.set_cons_zero, List.set_cons_succ, List.set_nil, List.getElem?_cons_zero, List.getElem?_cons_succ, List.getElem?_nil, Nat.sub_self, Nat.reduceAdd, Nat.reduceSub, Nat.zero_add, Nat.add_zero, Bool.false_eq_true, if_false, if_true, Bool.not_true, Bool.not_false, reduceIte]
  refine ⟨rfl, rfl, ?_⟩
  have e : PyData.eqv (.bool b) (.bool b) = true := by cases b <;> rfl
  rw [e]
  exact hp
theorem r_lcells : ∀ ds Q Xe, ft_law_cells ds Q Xe → a__law_cells (endA Q Xe) (startS ["number", "wide", "found", "step"] ds) := by
  rintro ds Q Xe ⟨n, w, rfl, hw, hp⟩
  simp only [a__law_cells_r2, a__law_cells, AB.aSeq, AB.aAsg, AB.aIfS, AB.aDrop, AB.aRet, AB.aRetN, AB.aRetV, AB.aBrk, AB.aCt, AB.aFrz, AB.aApp, AB.aAug, AB.aRaise, AB.aPar, AB.aPar3, AB.aAsgT, AB.aNext, AB.aVar, AB.aC, AB.frz, AB.frzR, AB.toR, AB.aOp2, AB.aUn, AB.aNil, AB.aCons, AB.aCB, AB.aTB, AB.aTru, AB.aNotT, AB.aAndT, AB.aOrT, AB.aAndV, AB.aOrV, AB.aNotV, AB.aIf, AB.aChain, AB.aNoPart, AB.aPart, AB.aSl, AB.aTup, AB.aLst, AB.aCall, AB.aCallR, AB.aIsi, AB.aLc, AB.aFor, AB.aWhile, AB.aiR1, AB.aiR2, AB.aiR3, AB.aiU, AB.aiU.on1', AB.aiE, AB.agName, AB.agNil, AB.agCons, AB.agTup, AB.aTold, AB.aDrw, AB.aListR1, AB.aListR2, AB.aYes, AB.on1, AB.on2, AB.look, AB.lookAll, AB.datAll, AB.startS, AB.startR, AB.endA, AB.endR, AB.itemsD, AB.noOwn, AB.wipeS, AB.fAdd, AB.fSub, AB.fMul, AB.fDiv, AB.fMod, AB.fPow, AB.fShl, AB.fShr, AB.fAnd1, AB.fEq, AB.fNe, AB.fCmp, AB.fIs, AB.fIsNot, AB.fNeg, AB.fIx, AB.fSl, AB.fAbs, AB.fInt, AB.fMax2, AB.fMin2, AB.fLen, AB.fTupleOf, AB.fListOf, AB.fSum, AB.fLstRev, AB.isNoneD, AB.truD, AB.truOk, AB.isD_int_non, AB.isD_int_bl, AB.isD_int_int, AB.isD_int_str, AB.isD_int_lst, AB.isD_int_tup, AB.isD_bool_non, AB.isD_bool_bl, AB.isD_bool_int, AB.isD_bool_str, AB.isD_bool_lst, AB.isD_bool_tup, AB.isD_list_non, AB.isD_list_bl, AB.isD_list_int, AB.isD_list_str, AB.isD_list_lst, AB.isD_list_tup, AB.isD_tuple_non, AB.isD_tuple_bl, AB.isD_tuple_int, AB.isD_tuple_str, AB.isD_tuple_lst, AB.isD_tuple_tup, AB.isD_str_non, AB.isD_str_bl, AB.isD_str_int, AB.isD_str_str, AB.isD_str_lst, AB.isD_str_tup, List.map_cons, List.map_nil, List.length_cons, List.length_nil, List.replicate_succ, List.replicate_zero, List.cons_append, List.nil_append, List.append_nil, List.set_cons_zero, List.set_cons_succ, List.set_nil, List.getElem?_cons_zero, List.getElem?_cons_succ, List.getElem?_nil, Nat.sub_self, Nat.reduceAdd, Nat.reduceSub, Nat.zero_add, Nat.add_zero, Bool.false_eq_true, if_false, if_true, Bool.not_true, Bool.not_false, reduceIte]
  refine ⟨by omega, by omega, by omega, fun k s => k ≤ w ∧ ∃ x, s = [.val (.int (n / 2 ^ k : Nat)), .val (.int w), .val (.tuple (cells n k)), x], ⟨by omega, .no, ?_⟩, ?_, ?_⟩
  · rw [Nat.pow_zero, Nat.div_one]
    rfl
  · rintro k d s hd ⟨hk, x, rfl⟩
    rw [Int.toNat_natCast] at hd
    obtain ⟨hk2, rfl⟩ := rangeD_get hd
    simp only [a__law_cells_1, AB.aSeq, AB.aAsg, AB.aIfS, AB.aDrop, AB.aRet, AB.aRetN, AB.aRetV, AB.aBrk, AB.aCt, AB.aFrz, AB.aApp, AB.aAug, AB.aRaise, AB.aPar, AB.aPar3, AB.aAsgT, AB.aNext, AB.aVar, AB.aC, AB.frz, AB.frzR, AB.toR, AB.aOp2, AB.aUn, AB.aNil, AB.aCons, AB.aCB, AB.aTB, AB.aTru, AB.aNotT, AB.aAndT, AB.aOrT, AB.aAndV, AB.aOrV, AB.aNotV, AB.aIf, AB.aChain, AB.aNoPart, AB.aPart, AB.aSl, AB.aTup, AB.aLst, AB.aCall, AB.aCallR, AB.aIsi, AB.aLc, AB.aFor, AB.aWhile, AB.aiR1, AB.aiR2, AB.aiR3, AB.aiU, AB.aiU.on1', AB.aiE, AB.agName, AB.agNil, AB.agCons, AB.agTup, AB.aTold, AB.aDrw, AB.aListR1, AB.aListR2, AB.aYes, AB.on1, AB.on2, AB.look, AB.lookAll, AB.datAll, AB.startS, AB.startR, AB.endA, AB.endR, AB.itemsD, AB.noOwn, AB.wipeS, AB.fAdd, AB.fSub, AB.fMul, AB.fDiv, AB.fMod, AB.fPow, AB.fShl, AB.fShr, AB.fAnd1, AB.fEq, AB.fNe, AB.fCmp, AB.fIs, AB.fIsNot, AB.fNeg, AB.fIx, AB.fSl, AB.fAbs, AB.fInt, AB.fMax2, AB.fMin2, AB.fLen, AB.fTupleOf, AB.fListOf, AB.fSum, AB.fLstRev, AB.isNoneD, AB.truD, AB.truOk, AB.isD_int_non, AB.isD_int_bl, AB.isD_int_int, AB.isD_int_str, AB.isD_int_lst, AB.isD_int_tup, AB.isD_bool_non, AB.isD_bool_bl, AB.isD_bool_int, AB.isD_bool_str, AB.isD_bool_lst, AB.isD_bool_tup, AB.isD_list_non, AB.isD_list_bl, AB.isD_list_int, AB.isD_list_str, AB.isD_list_lst, AB.isD_list_tup, AB.isD_tuple_non, AB.isD_tuple_bl, AB.isD_tuple_int, AB.isD_tuple_str, AB.isD_tuple_lst, AB.isD_tuple_tup, AB.isD_str_non, AB.isD_str_bl, AB.isD_str_int, AB.isD_str_str, AB.isD_str_lst, AB.isD_str_tup, List.map_cons, List.map_nil, List.length_cons, List.length_nil, List.replicate_succ, List.replicate_zero, List.cons_append, List.nil_append, List.append_nil, List.set_cons_zero, List.set_cons_succ, List.set_nil, List.getElem?_cons_zero, List.getElem?_cons_succ, List.getElem?_nil, Nat.sub_self, Nat.reduceAdd, Nat.reduceSub, Nat.zero_add, Nat.add_zero, Bool.false_eq_true, if_false, if_true, Bool.not_true, Bool.not_false, reduceIte]
    refine ⟨by decide, by decide, ?_, dok (by decide) (by decide), by omega, .val (.int (0 + (k : Int))), ?_⟩
    · rw [cells_len]
      omega
    · have e1 : ((n / 2 ^ k : Nat) : Int) / 2 = ((n / 2 ^ (k + 1) : Nat) : Int) := by
        rw [Nat.pow_succ, ← Nat.div_div_eq_div_mul]
        rfl
      have e2 : ((n / 2 ^ k : Nat) : Int) % 2 = ((n / 2 ^ k % 2 : Nat) : Int) := rfl
      rw [e1, e2]
      rfl
  · rintro s ⟨_, x, rfl⟩
    rw [rangeD_len, Int.toNat_natCast]
    exact hp
theorem r_lrank : ∀ ds Q Xe, ft_law_rank ds Q Xe → a__law_rank (endA Q Xe) (startS ["bits", "found", "left", "k"] ds) := by
  rintro ds Q Xe ⟨bs, rfl, hl, hp⟩
  simp only [a__law_rank_r2, a__law_rank, rowD, AB.aSeq, AB.aAsg, AB.aIfS, AB.aDrop, AB.aRet, AB.aRetN, AB.aRetV, AB.aBrk, AB.aCt, AB.aFrz, AB.aApp, AB.aAug, AB.aRaise, AB.aPar, AB.aPar3, AB.aAsgT, AB.aNext, AB.aVar, AB.aC, AB.frz, AB.frzR, AB.toR, AB.aOp2, AB.aUn, AB.aNil, AB.aCons, AB.aCB, AB.aTB, AB.aTru, AB.aNotT, AB.aAndT, AB.aOrT, AB.aAndV, AB.aOrV, AB.aNotV, AB.aIf, AB.aChain, AB.aNoPart, AB.aPart, AB.aSl, AB.aTup, AB.aLst, AB.aCall, AB.aCallR, AB.aIsi, AB.aLc, AB.aFor, AB.aWhile, AB.aiR1, AB.aiR2, AB.aiR3, AB.aiU, AB.aiU.on1', AB.aiE, AB.agName, AB.agNil, AB.agCons, AB.agTup, AB.aTold, AB.aDrw, AB.aListR1, AB.aListR2, AB.aYes, AB.on1, AB.on2, AB.look, AB.lookAll, AB.datAll, AB.startS, AB.startR, AB.endA, AB.endR, AB.itemsD, AB.noOwn, AB.wipeS, AB.fAdd, AB.fSub, AB.fMul, AB.fDiv, AB.fMod, AB.fPow, AB.fShl, AB.fShr, AB.fAnd1, AB.fEq, AB.fNe, AB.fCmp, AB.fIs, AB.fIsNot, AB.fNeg, AB.fIx, AB.fSl, AB.fAbs, AB.fInt, AB.fMax2, AB.fMin2, AB.fLen, AB.fTupleOf, AB.fListOf, AB.fSum, AB.fLstRev, AB.isNoneD, AB.truD, AB.truOk, AB.isD_int_non, AB.isD_int_bl, AB.isD_int_int, AB.isD_int_str, AB.isD_int_lst, AB.isD_int_tup, AB.isD_bool_non, AB.isD_bool_bl, AB.isD_bool_int, AB.isD_bool_str, AB.isD_bool_lst, AB.isD_bool_tup, AB.isD_list_non, AB.isD_list_bl, AB.isD_list_int, AB.isD_list_str, AB.isD_list_lst, AB.isD_list_tup, AB.isD_tuple_non, AB.isD_tuple_bl, AB.isD_tuple_int, AB.isD_tuple_str, AB.isD_tuple_lst, AB.isD_tuple_tup, AB.isD_str_non, AB.isD_str_bl, AB.isD_str_int, AB.isD_str_str, AB.isD_str_lst, AB.isD_str_tup, List.map_cons, List.map_nil, List.length_cons, List.length_nil, List.replicate_succ, List.replicate_zero, List.cons_append, List.nil_append, List.append_nil, List.set_cons_zero, List.set_cons_succ, List.set_nil, List.getElem?_cons_zero, List.getElem?_cons_succ, List.getElem?_nil, Nat.sub_self, Nat.reduceAdd, Nat.reduceSub, Nat.zero_add, Nat.add_zero, Bool.false_eq_true, if_false, if_true, Bool.not_true, Bool.not_false, reduceIte]
  refine ⟨_, map_bD bs, ?_⟩
  rw [sum_bits, List.length_map]
  refine ⟨by omega, by omega, fun k s => ∃ (f : Nat) (x : SV), s = [.val (.tuple (bs.map bD)), .val (.int f), .val (.int (cnt (bs.drop k) : Nat)), x] ∧ f + rank (bs.drop k) = rank bs, ⟨0, .no, by rfl, by simp⟩, ?_, ?_⟩
  · rintro k d s hd ⟨f, x, rfl, hf⟩
    rw [Int.toNat_natCast] at hd
    obtain ⟨hk, rfl⟩ := rangeD_get hd
    simp only [a__law_rank_1, AB.aSeq, AB.aAsg, AB.aIfS, AB.aDrop, AB.aRet, AB.aRetN, AB.aRetV, AB.aBrk, AB.aCt, AB.aFrz, AB.aApp, AB.aAug, AB.aRaise, AB.aPar, AB.aPar3, AB.aAsgT, AB.aNext, AB.aVar, AB.aC, AB.frz, AB.frzR, AB.toR, AB.aOp2, AB.aUn, AB.aNil, AB.aCons, AB.aCB, AB.aTB, AB.aTru, AB.aNotT, AB.aAndT, AB.aOrT, AB.aAndV, AB.aOrV, AB.aNotV, AB.aIf, AB.aChain, AB.aNoPart, AB.aPart, AB.aSl, AB.aTup, AB.aLst, AB.aCall, AB.aCallR, AB.aIsi, AB.aLc, AB.aFor, AB.aWhile, AB.aiR1, AB.aiR2, AB.aiR3, AB.aiU, AB.aiU.on1', AB.aiE, AB.agName, AB.agNil, AB.agCons, AB.agTup, AB.aTold, AB.aDrw, AB.aListR1, AB.aListR2, AB.aYes, AB.on1, AB.on2, AB.look, AB.lookAll, AB.datAll, AB.startS, AB.startR, AB.endA, AB.endR, AB.itemsD, AB.noOwn, AB.wipeS, AB.fAdd, AB.fSub, AB.fMul, AB.fDiv, AB.fMod, AB.fPow, AB.fShl, AB.fShr, AB.fAnd1, AB.fEq, AB.fNe, AB.fCmp, AB.fIs, AB.fIsNot, AB.fNeg, AB.fIx, AB.fSl, AB.fAbs, AB.fInt, AB.fMax2, AB.fMin2, AB.fLen, AB.fTupleOf, AB.fListOf, AB.fSum, AB.fLstRev, AB.isNoneD, AB.truD, AB.truOk, AB.isD_int_non, AB.isD_int_bl, AB.isD_int_int, AB.isD_int_str, AB.isD_int_lst, AB.isD_int_tup, AB.isD_bool_non, AB.isD_bool_bl, AB.isD_bool_int, AB.isD_bool_str, AB.isD_bool_lst, AB.isD_bool_tup, AB.isD_list_non, AB.isD_list_bl, AB.isD_list_int, AB.isD_list_str, AB.isD_list_lst, AB.isD_list_tup, AB.isD_tuple_non, AB.isD_tuple_bl, AB.isD_tuple_int, AB.isD_tuple_str, AB.isD_tuple_lst, AB.isD_tuple_tup, AB.isD_str_non, AB.isD_str_bl, AB.isD_str_int, AB.isD_str_str, AB.isD_str_lst, AB.isD_str_tup, List.map_cons, List.map_nil, List.length_cons, List.length_nil, List.replicate_succ, List.replicate_zero, List.cons_append, List.nil_append, List.append_nil, List.set_cons_zero, List.set_cons_succ, List.set_nil, List.getElem?_cons_zero, List.getElem?_cons_succ, List.getElem?_nil, Nat.sub_self, Nat.reduceAdd, Nat.reduceSub, Nat.zero_add, Nat.add_zero, Bool.false_eq_true, if_false, if_true, Bool.not_true, Bool.not_false, reduceIte, Int.zero_add]
    refine ⟨bD bs[k], atI_nat (j := k) (by rw [List.getElem?_map, List.getElem?_eq_getElem hk]; rfl), ?_⟩
    rw [drop_at hk] at hf
    rw [drop_at hk]
    cases hb : bs[k] with
    | false =>
      rw [hb] at hf
      simp only [bD, AB.aSeq, AB.aAsg, AB.aIfS, AB.aDrop, AB.aRet, AB.aRetN, AB.aRetV, AB.aBrk, AB.aCt, AB.aFrz, AB.aApp, AB.aAug, AB.aRaise, AB.aPar, AB.aPar3, AB.aAsgT, AB.aNext, AB.aVar, AB.aC, AB.frz, AB.frzR, AB.toR, AB.aOp2, AB.aUn, AB.aNil, AB.aCons, AB.aCB, AB.aTB, AB.aTru, AB.aNotT, AB.aAndT, AB.aOrT, AB.aAndV, AB.aOrV, AB.aNotV, AB.aIf, AB.aChain, AB.aNoPart, AB.aPart, AB.aSl, AB.aTup, AB.aLst, AB.aCall, AB.aCallR, AB.aIsi, AB.aLc, AB.aFor, AB.aWhile, AB.aiR1, AB.aiR2, AB.aiR3, AB.aiU, AB.aiU.on1', AB.aiE, AB.agName, AB.agNil, AB.agCons, AB.agTup, AB.aTold, AB.aDrw, AB.aListR1, AB.aListR2, AB.aYes, AB.on1, AB.on2, AB.look, AB.lookAll, AB.datAll, AB.startS, AB.startR, AB.endA, AB.endR, AB.itemsD, AB.noOwn, AB.wipeS, AB.fAdd, AB.fSub, AB.fMul, AB.fDiv, AB.fMod, AB.fPow, AB.fShl, AB.fShr, AB.fAnd1, AB.fEq, AB.fNe, AB.fCmp, AB.fIs, AB.fIsNot, AB.fNeg, AB.fIx, AB.fSl, AB.fAbs, AB.fInt, AB.fMax2, AB.fMin2, AB.fLen, AB.fTupleOf, AB.fListOf, AB.fSum, AB.fLstRev, AB.isNoneD, AB.truD, AB.truOk, AB.isD_int_non, AB.isD_int_bl, AB.isD_int_int, AB.isD_int_str, AB.isD_int_lst, AB.isD_int_tup, AB.isD_bool_non, AB.isD_bool_bl, AB.isD_bool_int, AB.isD_bool_str, AB.isD_bool_lst, AB.isD_bool_tup, AB.isD_list_non, AB.isD_list_bl, AB.isD_list_int, AB.isD_list_str, AB.isD_list_lst, AB.isD_list_tup, AB.isD_tuple_non, AB.isD_tuple_bl, AB.isD_tuple_int, AB.isD_tuple_str, AB.isD_tuple_lst, AB.isD_tuple_tup, AB.isD_str_non, AB.isD_str_bl, AB.isD_str_int, AB.isD_str_str, AB.isD_str_lst, AB.isD_str_tup, List.map_cons, List.map_nil, List.length_cons, List.length_nil, List.replicate_succ, List.replicate_zero, List.cons_append, List.nil_append, List.append_nil, List.set_cons_zero, List.set_cons_succ, List.set_nil, List.getElem?_cons_zero, List.getElem?_cons_succ, List.getElem?_nil, Nat.sub_self, Nat.reduceAdd, Nat.reduceSub, Nat.zero_add, Nat.add_zero, Bool.false_eq_true, if_false, if_true, Bool.not_true, Bool.not_false, reduceIte, eqv_int, shaped_int, true_and]
      exact ⟨f, .val (.int k), rfl, hf⟩
    | true =>
      rw [hb] at hf
      have hf2 : f + (ch (bs.drop (k + 1)).length (cnt (bs.drop (k + 1)) + 1) + rank (bs.drop (k + 1))) = rank bs := hf
      simp only [bD, AB.aSeq, AB.aAsg, AB.aIfS, AB.aDrop, AB.aRet, AB.aRetN, AB.aRetV, AB.aBrk, AB.aCt, AB.aFrz, AB.aApp, AB.aAug, AB.aRaise, AB.aPar, AB.aPar3, AB.aAsgT, AB.aNext, AB.aVar, AB.aC, AB.frz, AB.frzR, AB.toR, AB.aOp2, AB.aUn, AB.aNil, AB.aCons, AB.aCB, AB.aTB, AB.aTru, AB.aNotT, AB.aAndT, AB.aOrT, AB.aAndV, AB.aOrV, AB.aNotV, AB.aIf, AB.aChain, AB.aNoPart, AB.aPart, AB.aSl, AB.aTup, AB.aLst, AB.aCall, AB.aCallR, AB.aIsi, AB.aLc, AB.aFor, AB.aWhile, AB.aiR1, AB.aiR2, AB.aiR3, AB.aiU, AB.aiU.on1', AB.aiE, AB.agName, AB.agNil, AB.agCons, AB.agTup, AB.aTold, AB.aDrw, AB.aListR1, AB.aListR2, AB.aYes, AB.on1, AB.on2, AB.look, AB.lookAll, AB.datAll, AB.startS, AB.startR, AB.endA, AB.endR, AB.itemsD, AB.noOwn, AB.wipeS, AB.fAdd, AB.fSub, AB.fMul, AB.fDiv, AB.fMod, AB.fPow, AB.fShl, AB.fShr, AB.fAnd1, AB.fEq, AB.fNe, AB.fCmp, AB.fIs, AB.fIsNot, AB.fNeg, AB.fIx, AB.fSl, AB.fAbs, AB.fInt, AB.fMax2, AB.fMin2, AB.fLen, AB.fTupleOf, AB.fListOf, AB.fSum, AB.fLstRev, AB.isNoneD, AB.truD, AB.truOk, AB.isD_int_non, AB.isD_int_bl, AB.isD_int_int, AB.isD_int_str, AB.isD_int_lst, AB.isD_int_tup, AB.isD_bool_non, AB.isD_bool_bl, AB.isD_bool_int, AB.isD_bool_str, AB.isD_bool_lst, AB.isD_bool_tup, AB.isD_list_non, AB.isD_list_bl, AB.isD_list_int, AB.isD_list_str, AB.isD_list_lst, AB.isD_list_tup, AB.isD_tuple_non, AB.isD_tuple_bl, AB.isD_tuple_int, AB.isD_tuple_str, AB.isD_tuple_lst, AB.isD_tuple_tup, AB.isD_str_non, AB.isD_str_bl, AB.isD_str_int, AB.isD_str_str, AB.isD_str_lst, AB.isD_str_tup, List.map_cons, List.map_nil, List.length_cons, List.length_nil, List.replicate_succ, List.replicate_zero, List.cons_append, List.nil_append, List.append_nil, List.set_cons_zero, List.set_cons_succ, List.set_nil, List.getElem?_cons_zero, List.getElem?_cons_succ, List.getElem?_nil, Nat.sub_self, Nat.reduceAdd, Nat.reduceSub, Nat.zero_add, Nat.add_zero, Bool.false_eq_true, if_false, if_true, Bool.not_true, Bool.not_false, reduceIte, eqv_int, shaped_int, true_and]
      rw [if_pos (show ((1 : Int) == 1) = true from rfl)]
      refine ⟨(bs.drop (k + 1)).length, ((cnt (bs.drop (k + 1)) + 1 : Nat) : Int), ?_, ?_, ?_⟩
      · rw [List.length_map, List.length_drop]
        have : ((bs.length : Int) - (k : Int) - 1) = ((bs.length - (k + 1) : Nat) : Int) := by omega
        rw [this]
        rfl
      · rw [List.length_drop]
        omega
      · rw [chI_nat]
        refine ⟨f + ch (bs.drop (k + 1)).length (cnt (bs.drop (k + 1)) + 1), .val (.int k), ?_, by omega⟩
        have : ((cnt (true :: bs.drop (k + 1)) : Nat) : Int) - 1 = ((cnt (bs.drop (k + 1)) : Nat) : Int) := by
          show ((cnt (bs.drop (k + 1)) + 1 : Nat) : Int) - 1 = _
          omega
        rw [this]
        rfl
  · rintro s ⟨f, x, rfl, hf⟩
    rw [rangeD_len, Int.toNat_natCast, List.drop_length] at hf
    have e : f = rank bs := hf
    subst e
    exact hp
end K15
namespace K15
open PySem PySem.Spec PyProof.Rows L2 AB
theorem eqv_bb (b : Bool) : PyData.eqv (.bool b) (.bool b) = true := by cases b <;> rfl
theorem eqv_ii (i : Int) : PyData.eqv (.int i) (.int i) = true := by
  rw [eqv_int]
  exact beq_self_eq_true i
theorem eqv_ss (x : Str) : PyData.eqv (.str x) (.str x) = true := by
  show (x == x) = true
  exact beq_self_eq_true x
theorem eqv_tf : PyData.eqv (.bool true) (.bool false) = false := rfl
theorem eqv_ll : PyData.eqv (.list []) (.list []) = true := by rfl
theorem shaped_b (b : Bool) : SeqAt.shaped (.bool b) = true := by rfl
theorem shaped_e : SeqAt.shaped (.list []) = true := by rfl
theorem depAll_get {n : Nat} : ∀ {xs : List PyData} {i : Nat} {d : PyData}, depAll xs (n + 1) = true → xs[i]? = some d → depD d n = true
  | x :: r, 0, d, h, e => by
    cases e
    rw [depAll, Bool.and_eq_true] at h
    exact h.1
  | x :: r, i + 1, d, h, e => by
    rw [depAll, Bool.and_eq_true] at h
    exact depAll_get h.2 e
  | [], i, d, h, e => by simp at e
theorem depAll_zero (xs : List PyData) : depAll xs 0 = false := by
  cases xs <;> rw [depAll]
theorem r_alike_seq (n : Nat) (Q : RV → Prop) (Xe : XP) (d : PyData) (xs : List PyData) (hd : d = .list xs ∨ d = .tuple xs) (hl : xs.length ≤ 100000) (hx : depAll xs (n + 1) = true) (hp : Q (.dat (.bool true))) :
    a__law_alike_r2 (n + 1) (endA Q Xe) (startS ["found", "due", "k"] [d, d]) := by
  rcases hd with rfl | rfl
  all_goals
    simp only [a__law_alike_r2, AB.aSeq, AB.aAsg, AB.aIfS, AB.aDrop, AB.aRet, AB.aRetN, AB.aRetV, AB.aBrk, AB.aCt, AB.aFrz, AB.aApp, AB.aAug, AB.aRaise, AB.aPar, AB.aPar3, AB.aAsgT, AB.aNext, AB.aVar, AB.aC, AB.frz, AB.frzR, AB.toR, AB.aOp2, AB.aUn, AB.aNil, AB.aCons, AB.aCB, AB.aTB, AB.aTru, AB.aNotT, AB.aAndT, AB.aOrT, AB.aAndV, AB.aOrV, AB.aNotV, AB.aIf, AB.aChain, AB.aNoPart, AB.aPart, AB.aSl, AB.aTup, AB.aLst, AB.aCall, AB.aCallR, AB.aIsi, AB.aLc, AB.aFor, AB.aWhile, AB.aiR1, AB.aiR2, AB.aiR3, AB.aiU, AB.aiU.on1', AB.aiE, AB.agName, AB.agNil, AB.agCons, AB.agTup, AB.aTold, AB.aDrw, AB.aListR1, AB.aListR2, AB.aYes, AB.on1, AB.on2, AB.look, AB.lookAll, AB.datAll, AB.startS, AB.startR, AB.endA, AB.endR, AB.itemsD, AB.noOwn, AB.wipeS, AB.fAdd, AB.fSub, AB.fMul, AB.fDiv, AB.fMod, AB.fPow, AB.fShl, AB.fShr, AB.fAnd1, AB.fEq, AB.fNe, AB.fCmp, AB.fIs, AB.fIsNot, AB.fNeg, AB.fIx, AB.fSl, AB.fAbs, AB.fInt, AB.fMax2, AB.fMin2, AB.fLen, AB.fTupleOf, AB.fListOf, AB.fSum, AB.fLstRev, AB.isNoneD, AB.truD, AB.truOk, AB.isD_int_non, AB.isD_int_bl, AB.isD_int_int, AB.isD_int_str, AB.isD_int_lst, AB.isD_int_tup, AB.isD_bool_non, AB.isD_bool_bl, AB.isD_bool_int, AB.isD_bool_str, AB.isD_bool_lst, AB.isD_bool_tup, AB.isD_list_non, AB.isD_list_bl, AB.isD_list_int, AB.isD_list_str, AB.isD_list_lst, AB.isD_list_tup, AB.isD_tuple_non, AB.isD_tuple_bl, AB.isD_tuple_int, AB.isD_tuple_str, AB.isD_tuple_lst, AB.isD_tuple_tup, AB.isD_str_non, AB.isD_str_bl, AB.isD_str_int, AB.isD_str_str, AB.isD_str_lst, AB.isD_str_tup, List.map_cons, List.map_nil, List.length_cons, List.length_nil, List.replicate_succ, List.replicate_zero, List.cons_append, List.nil_append, List.append_nil, List.set_cons_zero, List.set_cons_succ, List.set_nil, List.getElem?_cons_zero, List.getElem?_cons_succ, List.getElem?_nil, Nat.sub_self, Nat.reduceAdd, Nat.reduceSub, Nat.zero_add, Nat.add_zero, Bool.false_eq_true, if_false, if_true, Bool.not_true, Bool.not_false, reduceIte]
    refine ⟨shaped_int _, shaped_int _, ?_⟩
    rw [eqv_ii]
    simp only [AB.aSeq, AB.aAsg, AB.aIfS, AB.aDrop, AB.aRet, AB.aRetN, AB.aRetV, AB.aBrk, AB.aCt, AB.aFrz, AB.aApp, AB.aAug, AB.aRaise, AB.aPar, AB.aPar3, AB.aAsgT, AB.aNext, AB.aVar, AB.aC, AB.frz, AB.frzR, AB.toR, AB.aOp2, AB.aUn, AB.aNil, AB.aCons, AB.aCB, AB.aTB, AB.aTru, AB.aNotT, AB.aAndT, AB.aOrT, AB.aAndV, AB.aOrV, AB.aNotV, AB.aIf, AB.aChain, AB.aNoPart, AB.aPart, AB.aSl, AB.aTup, AB.aLst, AB.aCall, AB.aCallR, AB.aIsi, AB.aLc, AB.aFor, AB.aWhile, AB.aiR1, AB.aiR2, AB.aiR3, AB.aiU, AB.aiU.on1', AB.aiE, AB.agName, AB.agNil, AB.agCons, AB.agTup, AB.aTold, AB.aDrw, AB.aListR1, AB.aListR2, AB.aYes, AB.on1, AB.on2, AB.look, AB.lookAll, AB.datAll, AB.startS, AB.startR, AB.endA, AB.endR, AB.itemsD, AB.noOwn, AB.wipeS, AB.fAdd, AB.fSub, AB.fMul, AB.fDiv, AB.fMod, AB.fPow, AB.fShl, AB.fShr, AB.fAnd1, AB.fEq, AB.fNe, AB.fCmp, AB.fIs, AB.fIsNot, AB.fNeg, AB.fIx, AB.fSl, AB.fAbs, AB.fInt, AB.fMax2, AB.fMin2, AB.fLen, AB.fTupleOf, AB.fListOf, AB.fSum, AB.fLstRev, AB.isNoneD, AB.truD, AB.truOk, AB.isD_int_non, AB.isD_int_bl, AB.isD_int_int, AB.isD_int_str, AB.isD_int_lst, AB.isD_int_tup, AB.isD_bool_non, AB.isD_bool_bl, AB.isD_bool_int, AB.isD_bool_str, AB.isD_bool_lst, AB.isD_bool_tup, AB.isD_list_non, AB.isD_list_bl, AB.isD_list_int, AB.isD_list_str, AB.isD_list_lst, AB.isD_list_tup, AB.isD_tuple_non, AB.isD_tuple_bl, AB.isD_tuple_int, AB.isD_tuple_str, AB.isD_tuple_lst, AB.isD_tuple_tup, AB.isD_str_non, AB.isD_str_bl, AB.isD_str_int, AB.isD_str_str, AB.isD_str_lst, AB.isD_str_tup, List.map_cons, List.map_nil, List.length_cons, List.length_nil, List.replicate_succ, List.replicate_zero, List.cons_append, List.nil_append, List.append_nil, List.set_cons_zero, List.set_cons_succ, List.set_nil, List.getElem?_cons_zero, List.getElem?_cons_succ, List.getElem?_nil, Nat.sub_self, Nat.reduceAdd, Nat.reduceSub, Nat.zero_add, Nat.add_zero, Bool.false_eq_true, if_false, if_true, Bool.not_true, Bool.not_false, reduceIte]
    refine ⟨rfl, by omega, by omega, ?_, fun k acc => acc = [], rfl, ?_, ?_⟩
    · rw [rangeD_len, Int.toNat_natCast]
      omega
    · rintro k x acc hk rfl
      rw [Int.toNat_natCast] at hk
      obtain ⟨hk2, rfl⟩ := rangeD_get hk
      have g : xs[k]? = some xs[k] := List.getElem?_eq_getElem hk2
      have ga : atI xs (0 + (k : Int)) = some xs[k] := by
        rw [Int.zero_add]
        exact atI_nat (j := k) g
      simp only [a__law_alike_1, AB.aSeq, AB.aAsg, AB.aIfS, AB.aDrop, AB.aRet, AB.aRetN, AB.aRetV, AB.aBrk, AB.aCt, AB.aFrz, AB.aApp, AB.aAug, AB.aRaise, AB.aPar, AB.aPar3, AB.aAsgT, AB.aNext, AB.aVar, AB.aC, AB.frz, AB.frzR, AB.toR, AB.aOp2, AB.aUn, AB.aNil, AB.aCons, AB.aCB, AB.aTB, AB.aTru, AB.aNotT, AB.aAndT, AB.aOrT, AB.aAndV, AB.aOrV, AB.aNotV, AB.aIf, AB.aChain, AB.aNoPart, AB.aPart, AB.aSl, AB.aTup, AB.aLst, AB.aCall, AB.aCallR, AB.aIsi, AB.aLc, AB.aFor, AB.aWhile, AB.aiR1, AB.aiR2, AB.aiR3, AB.aiU, AB.aiU.on1', AB.aiE, AB.agName, AB.agNil, AB.agCons, AB.agTup, AB.aTold, AB.aDrw, AB.aListR1, AB.aListR2, AB.aYes, AB.on1, AB.on2, AB.look, AB.lookAll, AB.datAll, AB.startS, AB.startR, AB.endA, AB.endR, AB.itemsD, AB.noOwn, AB.wipeS, AB.fAdd, AB.fSub, AB.fMul, AB.fDiv, AB.fMod, AB.fPow, AB.fShl, AB.fShr, AB.fAnd1, AB.fEq, AB.fNe, AB.fCmp, AB.fIs, AB.fIsNot, AB.fNeg, AB.fIx, AB.fSl, AB.fAbs, AB.fInt, AB.fMax2, AB.fMin2, AB.fLen, AB.fTupleOf, AB.fListOf, AB.fSum, AB.fLstRev, AB.isNoneD, AB.truD, AB.truOk, AB.isD_int_non, AB.isD_int_bl, AB.isD_int_int, AB.isD_int_str, AB.isD_int_lst, AB.isD_int_tup, AB.isD_bool_non, AB.isD_bool_bl, AB.isD_bool_int, AB.isD_bool_str, AB.isD_bool_lst, AB.isD_bool_tup, AB.isD_list_non, AB.isD_list_bl, AB.isD_list_int, AB.isD_list_str, AB.isD_list_lst, AB.isD_list_tup, AB.isD_tuple_non, AB.isD_tuple_bl, AB.isD_tuple_int, AB.isD_tuple_str, AB.isD_tuple_lst, AB.isD_tuple_tup, AB.isD_str_non, AB.isD_str_bl, AB.isD_str_int, AB.isD_str_str, AB.isD_str_lst, AB.isD_str_tup, List.map_cons, List.map_nil, List.length_cons, List.length_nil, List.replicate_succ, List.replicate_zero, List.cons_append, List.nil_append, List.append_nil, List.set_cons_zero, List.set_cons_succ, List.set_nil, List.getElem?_cons_zero, List.getElem?_cons_succ, List.getElem?_nil, Nat.sub_self, Nat.reduceAdd, Nat.reduceSub, Nat.zero_add, Nat.add_zero, Bool.false_eq_true, if_false, if_true, Bool.not_true, Bool.not_false, reduceIte]
      exact ⟨xs[k], ga, xs[k], ga, xs[k], rfl, depAll_get hx g, by simp⟩
    · rintro acc rfl
      refine ⟨by decide, rfl, rfl, ?_⟩
      rw [eqv_ll]
      exact hp
theorem r_alike (n : Nat) : ∀ ds Q Xe, ft_law_alike' (n + 1) ds Q Xe → a__law_alike n (endA Q Xe) (startS ["found", "due", "k"] ds) := by
  rintro ds Q Xe ⟨d, rfl, hd, hp⟩
  have seq : ∀ xs, (d = .list xs ∨ d = .tuple xs) → a__law_alike_r2 n (endA Q Xe) (startS ["found", "due", "k"] [d, d]) := fun xs hx => by
    have hh : (decide (xs.length ≤ 100000) && depAll xs n) = true := by
      rcases hx with rfl | rfl
      · rw [depD] at hd
        exact hd
      · rw [depD] at hd
        exact hd
    rw [Bool.and_eq_true, decide_eq_true_eq] at hh
    cases n with
    | zero =>
      rw [depAll_zero] at hh
      exact absurd hh.2 Bool.false_ne_true
    | succ n => exact r_alike_seq n Q Xe d xs hx hh.1 hh.2 hp
  cases d with
  | list xs =>
    have z := seq xs (.inl rfl)
    simp only [a__law_alike, AB.aSeq, AB.aAsg, AB.aIfS, AB.aDrop, AB.aRet, AB.aRetN, AB.aRetV, AB.aBrk, AB.aCt, AB.aFrz, AB.aApp, AB.aAug, AB.aRaise, AB.aPar, AB.aPar3, AB.aAsgT, AB.aNext, AB.aVar, AB.aC, AB.frz, AB.frzR, AB.toR, AB.aOp2, AB.aUn, AB.aNil, AB.aCons, AB.aCB, AB.aTB, AB.aTru, AB.aNotT, AB.aAndT, AB.aOrT, AB.aAndV, AB.aOrV, AB.aNotV, AB.aIf, AB.aChain, AB.aNoPart, AB.aPart, AB.aSl, AB.aTup, AB.aLst, AB.aCall, AB.aCallR, AB.aIsi, AB.aLc, AB.aFor, AB.aWhile, AB.aiR1, AB.aiR2, AB.aiR3, AB.aiU, AB.aiU.on1', AB.aiE, AB.agName, AB.agNil, AB.agCons, AB.agTup, AB.aTold, AB.aDrw, AB.aListR1, AB.aListR2, AB.aYes, AB.on1, AB.on2, AB.look, AB.lookAll, AB.datAll, AB.startS, AB.startR, AB.endA, AB.endR, AB.itemsD, AB.noOwn, AB.wipeS, AB.fAdd, AB.fSub, AB.fMul, AB.fDiv, AB.fMod, AB.fPow, AB.fShl, AB.fShr, AB.fAnd1, AB.fEq, AB.fNe, AB.fCmp, AB.fIs, AB.fIsNot, AB.fNeg, AB.fIx, AB.fSl, AB.fAbs, AB.fInt, AB.fMax2, AB.fMin2, AB.fLen, AB.fTupleOf, AB.fListOf, AB.fSum, AB.fLstRev, AB.isNoneD, AB.truD, AB.truOk, AB.isD_int_non, AB.isD_int_bl, AB.isD_int_int, AB.isD_int_str, AB.isD_int_lst, AB.isD_int_tup, AB.isD_bool_non, AB.isD_bool_bl, AB.isD_bool_int, AB.isD_bool_str, AB.isD_bool_lst, AB.isD_bool_tup, AB.isD_list_non, AB.isD_list_bl, AB.isD_list_int, AB.isD_list_str, AB.isD_list_lst, AB.isD_list_tup, AB.isD_tuple_non, AB.isD_tuple_bl, AB.isD_tuple_int, AB.isD_tuple_str, AB.isD_tuple_lst, AB.isD_tuple_tup, AB.isD_str_non, AB.isD_str_bl, AB.isD_str_int, AB.isD_str_str, AB.isD_str_lst, AB.isD_str_tup, List.map_cons, List.map_nil, List.length_cons, List.length_nil, List.replicate_succ, List.replicate_zero, List.cons_append, List.nil_append, List.append_nil, List.set_cons_zero, List.set_cons_succ, List.set_nil, List.getElem?_cons_zero, List.getElem?_cons_succ, List.getElem?_nil, Nat.sub_self, Nat.reduceAdd, Nat.reduceSub, Nat.zero_add, Nat.add_zero, Bool.false_eq_true, if_false, if_true, Bool.not_true, Bool.not_false, reduceIte, eqv_bb, shaped_b, true_and]
    exact z
  | tuple xs =>
    have z := seq xs (.inr rfl)
    simp only [a__law_alike, AB.aSeq, AB.aAsg, AB.aIfS, AB.aDrop, AB.aRet, AB.aRetN, AB.aRetV, AB.aBrk, AB.aCt, AB.aFrz, AB.aApp, AB.aAug, AB.aRaise, AB.aPar, AB.aPar3, AB.aAsgT, AB.aNext, AB.aVar, AB.aC, AB.frz, AB.frzR, AB.toR, AB.aOp2, AB.aUn, AB.aNil, AB.aCons, AB.aCB, AB.aTB, AB.aTru, AB.aNotT, AB.aAndT, AB.aOrT, AB.aAndV, AB.aOrV, AB.aNotV, AB.aIf, AB.aChain, AB.aNoPart, AB.aPart, AB.aSl, AB.aTup, AB.aLst, AB.aCall, AB.aCallR, AB.aIsi, AB.aLc, AB.aFor, AB.aWhile, AB.aiR1, AB.aiR2, AB.aiR3, AB.aiU, AB.aiU.on1', AB.aiE, AB.agName, AB.agNil, AB.agCons, AB.agTup, AB.aTold, AB.aDrw, AB.aListR1, AB.aListR2, AB.aYes, AB.on1, AB.on2, AB.look, AB.lookAll, AB.datAll, AB.startS, AB.startR, AB.endA, AB.endR, AB.itemsD, AB.noOwn, AB.wipeS, AB.fAdd, AB.fSub, AB.fMul, AB.fDiv, AB.fMod, AB.fPow, AB.fShl, AB.fShr, AB.fAnd1, AB.fEq, AB.fNe, AB.fCmp, AB.fIs, AB.fIsNot, AB.fNeg, AB.fIx, AB.fSl, AB.fAbs, AB.fInt, AB.fMax2, AB.fMin2, AB.fLen, AB.fTupleOf, AB.fListOf, AB.fSum, AB.fLstRev, AB.isNoneD, AB.truD, AB.truOk, AB.isD_int_non, AB.isD_int_bl, AB.isD_int_int, AB.isD_int_str, AB.isD_int_lst, AB.isD_int_tup, AB.isD_bool_non, AB.isD_bool_bl, AB.isD_bool_int, AB.isD_bool_str, AB.isD_bool_lst, AB.isD_bool_tup, AB.isD_list_non, AB.isD_list_bl, AB.isD_list_int, AB.isD_list_str, AB.isD_list_lst, AB.isD_list_tup, AB.isD_tuple_non, AB.isD_tuple_bl, AB.isD_tuple_int, AB.isD_tuple_str, AB.isD_tuple_lst, AB.isD_tuple_tup, AB.isD_str_non, AB.isD_str_bl, AB.isD_str_int, AB.isD_str_str, AB.isD_str_lst, AB.isD_str_tup, List.map_cons, List.map_nil, List.length_cons, List.length_nil, List.replicate_succ, List.replicate_zero, List.cons_append, List.nil_append, List.append_nil, List.set_cons_zero, List.set_cons_succ, List.set_nil, List.getElem?_cons_zero, List.getElem?_cons_succ, List.getElem?_nil, Nat.sub_self, Nat.reduceAdd, Nat.reduceSub, Nat.zero_add, Nat.add_zero, Bool.false_eq_true, if_false, if_true, Bool.not_true, Bool.not_false, reduceIte, eqv_bb, shaped_b, true_and]
    exact z
  | none => simpa only [a__law_alike, a__law_alike_r6, AB.aSeq, AB.aAsg, AB.aIfS, AB.aDrop, AB.aRet, AB.aRetN, AB.aRetV, AB.aBrk, AB.aCt, AB.aFrz, AB.aApp, AB.aAug, AB.aRaise, AB.aPar, AB.aPar3, AB.aAsgT, AB.aNext, AB.aVar, AB.aC, AB.frz, AB.frzR, AB.toR, AB.aOp2, AB.aUn, AB.aNil, AB.aCons, AB.aCB, AB.aTB, AB.aTru, AB.aNotT, AB.aAndT, AB.aOrT, AB.aAndV, AB.aOrV, AB.aNotV, AB.aIf, AB.aChain, AB.aNoPart, AB.aPart, AB.aSl, AB.aTup, AB.aLst, AB.aCall, AB.aCallR, AB.aIsi, AB.aLc, AB.aFor, AB.aWhile, AB.aiR1, AB.aiR2, AB.aiR3, AB.aiU, AB.aiU.on1', AB.aiE, AB.agName, AB.agNil, AB.agCons, AB.agTup, AB.aTold, AB.aDrw, AB.aListR1, AB.aListR2, AB.aYes, AB.on1, AB.on2, AB.look, AB.lookAll, AB.datAll, AB.startS, AB.startR, AB.endA, AB.endR, AB.itemsD, AB.noOwn, AB.wipeS, AB.fAdd, AB.fSub, AB.fMul, AB.fDiv, AB.fMod, AB.fPow, AB.fShl, AB.fShr, AB.fAnd1, AB.fEq, AB.fNe, AB.fCmp, AB.fIs, AB.fIsNot, AB.fNeg, AB.fIx, AB.fSl, AB.fAbs, AB.fInt, AB.fMax2, AB.fMin2, AB.fLen, AB.fTupleOf, AB.fListOf, AB.fSum, AB.fLstRev, AB.isNoneD, AB.truD, AB.truOk, AB.isD_int_non, AB.isD_int_bl, AB.isD_int_int, AB.isD_int_str, AB.isD_int_lst, AB.isD_int_tup, AB.isD_bool_non, AB.isD_bool_bl, AB.isD_bool_int, AB.isD_bool_str, AB.isD_bool_lst, AB.isD_bool_tup, AB.isD_list_non, AB.isD_list_bl, AB.isD_list_int, AB.isD_list_str, AB.isD_list_lst, AB.isD_list_tup, AB.isD_tuple_non, AB.isD_tuple_bl, AB.isD_tuple_int, AB.isD_tuple_str, AB.isD_tuple_lst, AB.isD_tuple_tup, AB.isD_str_non, AB.isD_str_bl, AB.isD_str_int, AB.isD_str_str, AB.isD_str_lst, AB.isD_str_tup, List.map_cons, List.map_nil, List.length_cons, List.length_nil, List.replicate_succ, List.replicate_zero, List.cons_append, List.nil_append, List.append_nil, List.set_cons_zero, List.set_cons_succ, List.set_nil, List.getElem?_cons_zero, List.getElem?_cons_succ, List.getElem?_nil, Nat.sub_self, Nat.reduceAdd, Nat.reduceSub, Nat.zero_add, Nat.add_zero, Bool.false_eq_true, if_false, if_true, Bool.not_true, Bool.not_false, reduceIte, eqv_bb, shaped_b, true_and] using hp
  | bool b => simpa only [a__law_alike, a__law_alike_r6, a__law_alike_r5, AB.aSeq, AB.aAsg, AB.aIfS, AB.aDrop, AB.aRet, AB.aRetN, AB.aRetV, AB.aBrk, AB.aCt, AB.aFrz, AB.aApp, AB.aAug, AB.aRaise, AB.aPar, AB.aPar3, AB.aAsgT, AB.aNext, AB.aVar, AB.aC, AB.frz, AB.frzR, AB.toR, AB.aOp2, AB.aUn, AB.aNil, AB.aCons, AB.aCB, AB.aTB, AB.aTru, AB.aNotT, AB.aAndT, AB.aOrT, AB.aAndV, AB.aOrV, AB.aNotV, AB.aIf, AB.aChain, AB.aNoPart, AB.aPart, AB.aSl, AB.aTup, AB.aLst, AB.aCall, AB.aCallR, AB.aIsi, AB.aLc, AB.aFor, AB.aWhile, AB.aiR1, AB.aiR2, AB.aiR3, AB.aiU, AB.aiU.on1', AB.aiE, AB.agName, AB.agNil, AB.agCons, AB.agTup, AB.aTold, AB.aDrw, AB.aListR1, AB.aListR2, AB.aYes, AB.on1, AB.on2, AB.look, AB.lookAll, AB.datAll, AB.startS, AB.startR, AB.endA, AB.endR, AB.itemsD, AB.noOwn, AB.wipeS, AB.fAdd, AB.fSub, AB.fMul, AB.fDiv, AB.fMod, AB.fPow, AB.fShl, AB.fShr, AB.fAnd1, AB.fEq, AB.fNe, AB.fCmp, AB.fIs, AB.fIsNot, AB.fNeg, AB.fIx, AB.fSl, AB.fAbs, AB.fInt, AB.fMax2, AB.fMin2, AB.fLen, AB.fTupleOf, AB.fListOf, AB.fSum, AB.fLstRev, AB.isNoneD, AB.truD, AB.truOk, AB.isD_int_non, AB.isD_int_bl, AB.isD_int_int, AB.isD_int_str, AB.isD_int_lst, AB.isD_int_tup, AB.isD_bool_non, AB.isD_bool_bl, AB.isD_bool_int, AB.isD_bool_str, AB.isD_bool_lst, AB.isD_bool_tup, AB.isD_list_non, AB.isD_list_bl, AB.isD_list_int, AB.isD_list_str, AB.isD_list_lst, AB.isD_list_tup, AB.isD_tuple_non, AB.isD_tuple_bl, AB.isD_tuple_int, AB.isD_tuple_str, AB.isD_tuple_lst, AB.isD_tuple_tup, AB.isD_str_non, AB.isD_str_bl, AB.isD_str_int, AB.isD_str_str, AB.isD_str_lst, AB.isD_str_tup, List.map_cons, List.map_nil, List.length_cons, List.length_nil, List.replicate_succ, List.replicate_zero, List.cons_append, List.nil_append, List.append_nil, List.set_cons_zero, List.set_cons_succ, List.set_nil, List.getElem?_cons_zero, List.getElem?_cons_succ, List.getElem?_nil, Nat.sub_self, Nat.reduceAdd, Nat.reduceSub, Nat.zero_add, Nat.add_zero, Bool.false_eq_true, if_false, if_true, Bool.not_true, Bool.not_false, reduceIte, eqv_bb, shaped_b, true_and] using hp
  | int b => simpa only [a__law_alike, a__law_alike_r6, a__law_alike_r5, a__law_alike_r4, AB.aSeq, AB.aAsg, AB.aIfS, AB.aDrop, AB.aRet, AB.aRetN, AB.aRetV, AB.aBrk, AB.aCt, AB.aFrz, AB.aApp, AB.aAug, AB.aRaise, AB.aPar, AB.aPar3, AB.aAsgT, AB.aNext, AB.aVar, AB.aC, AB.frz, AB.frzR, AB.toR, AB.aOp2, AB.aUn, AB.aNil, AB.aCons, AB.aCB, AB.aTB, AB.aTru, AB.aNotT, AB.aAndT, AB.aOrT, AB.aAndV, AB.aOrV, AB.aNotV, AB.aIf, AB.aChain, AB.aNoPart, AB.aPart, AB.aSl, AB.aTup, AB.aLst, AB.aCall, AB.aCallR, AB.aIsi, AB.aLc, AB.aFor, AB.aWhile, AB.aiR1, AB.aiR2, AB.aiR3, AB.aiU, AB.aiU.on1', AB.aiE, AB.agName, AB.agNil, AB.agCons, AB.agTup, AB.aTold, AB.aDrw, AB.aListR1, AB.aListR2, AB.aYes, AB.on1, AB.on2, AB.look, AB.lookAll, AB.datAll, AB.startS, AB.startR, AB.endA, AB.endR, AB.itemsD, AB.noOwn, AB.wipeS, AB.fAdd, AB.fSub, AB.fMul, AB.fDiv, AB.fMod, AB.fPow, AB.fShl, AB.fShr, AB.fAnd1, AB.fEq, AB.fNe, AB.fCmp, AB.fIs, AB.fIsNot, AB.fNeg, AB.fIx, AB.fSl, AB.fAbs, AB.fInt, AB.fMax2, AB.fMin2, AB.fLen, AB.fTupleOf, AB.fListOf, AB.fSum, AB.fLstRev, AB.isNoneD, AB.truD, AB.truOk, AB.isD_int_non, AB.isD_int_bl, AB.isD_int_int, AB.isD_int_str, AB.isD_int_lst, AB.isD_int_tup, AB.isD_bool_non, AB.isD_bool_bl, AB.isD_bool_int, AB.isD_bool_str, AB.isD_bool_lst, AB.isD_bool_tup, AB.isD_list_non, AB.isD_list_bl, AB.isD_list_int, AB.isD_list_str, AB.isD_list_lst, AB.isD_list_tup, AB.isD_tuple_non, AB.isD_tuple_bl, AB.isD_tuple_int, AB.isD_tuple_str, AB.isD_tuple_lst, AB.isD_tuple_tup, AB.isD_str_non, AB.isD_str_bl, AB.isD_str_int, AB.isD_str_str, AB.isD_str_lst, AB.isD_str_tup, List.map_cons, List.map_nil, List.length_cons, List.length_nil, List.replicate_succ, List.replicate_zero, List.cons_append, List.nil_append, List.append_nil, List.set_cons_zero, List.set_cons_succ, List.set_nil, List.getElem?_cons_zero, List.getElem?_cons_succ, List.getElem?_nil, Nat.sub_self, Nat.reduceAdd, Nat.reduceSub, Nat.zero_add, Nat.add_zero, Bool.false_eq_true, if_false, if_true, Bool.not_true, Bool.not_false, reduceIte, eqv_ii, shaped_int, true_and] using hp
  | str b =>
    have hs : SeqAt.shaped (.str b) = true := by
      simpa [depD] using hd
    simpa only [a__law_alike, a__law_alike_r6, a__law_alike_r5, a__law_alike_r4, a__law_alike_r3, AB.aSeq, AB.aAsg, AB.aIfS, AB.aDrop, AB.aRet, AB.aRetN, AB.aRetV, AB.aBrk, AB.aCt, AB.aFrz, AB.aApp, AB.aAug, AB.aRaise, AB.aPar, AB.aPar3, AB.aAsgT, AB.aNext, AB.aVar, AB.aC, AB.frz, AB.frzR, AB.toR, AB.aOp2, AB.aUn, AB.aNil, AB.aCons, AB.aCB, AB.aTB, AB.aTru, AB.aNotT, AB.aAndT, AB.aOrT, AB.aAndV, AB.aOrV, AB.aNotV, AB.aIf, AB.aChain, AB.aNoPart, AB.aPart, AB.aSl, AB.aTup, AB.aLst, AB.aCall, AB.aCallR, AB.aIsi, AB.aLc, AB.aFor, AB.aWhile, AB.aiR1, AB.aiR2, AB.aiR3, AB.aiU, AB.aiU.on1', AB.aiE, AB.agName, AB.agNil, AB.agCons, AB.agTup, AB.aTold, AB.aDrw, AB.aListR1, AB.aListR2, AB.aYes, AB.on1, AB.on2, AB.look, AB.lookAll, AB.datAll, AB.startS, AB.startR, AB.endA, AB.endR, AB.itemsD, AB.noOwn, AB.wipeS, AB.fAdd, AB.fSub, AB.fMul, AB.fDiv, AB.fMod, AB.fPow, AB.fShl, AB.fShr, AB.fAnd1, AB.fEq, AB.fNe, AB.fCmp, AB.fIs, AB.fIsNot, AB.fNeg, AB.fIx, AB.fSl, AB.fAbs, AB.fInt, AB.fMax2, AB.fMin2, AB.fLen, AB.fTupleOf, AB.fListOf, AB.fSum, AB.fLstRev, AB.isNoneD, AB.truD, AB.truOk, AB.isD_int_non, AB.isD_int_bl, AB.isD_int_int, AB.isD_int_str, AB.isD_int_lst, AB.isD_int_tup, AB.isD_bool_non, AB.isD_bool_bl, AB.isD_bool_int, AB.isD_bool_str, AB.isD_bool_lst, AB.isD_bool_tup, AB.isD_list_non, AB.isD_list_bl, AB.isD_list_int, AB.isD_list_str, AB.isD_list_lst, AB.isD_list_tup, AB.isD_tuple_non, AB.isD_tuple_bl, AB.isD_tuple_int, AB.isD_tuple_str, AB.isD_tuple_lst, AB.isD_tuple_tup, AB.isD_str_non, AB.isD_str_bl, AB.isD_str_int, AB.isD_str_str, AB.isD_str_lst, AB.isD_str_tup, List.map_cons, List.map_nil, List.length_cons, List.length_nil, List.replicate_succ, List.replicate_zero, List.cons_append, List.nil_append, List.append_nil, List.set_cons_zero, List.set_cons_succ, List.set_nil, List.getElem?_cons_zero, List.getElem?_cons_succ, List.getElem?_nil, Nat.sub_self, Nat.reduceAdd, Nat.reduceSub, Nat.zero_add, Nat.add_zero, Bool.false_eq_true, if_false, if_true, Bool.not_true, Bool.not_false, reduceIte, eqv_ss, hs, true_and] using hp
  | dict b => simp [depD] at hd
/-! Pascal's rows -/
def prow (s : Nat) : List PyData := (List.range (s + 1)).map fun k : Nat => .int (ch s k : Nat)
theorem prow_len (s : Nat) : (prow s).length = s + 1 := by
  unfold prow
  rw [List.length_map, List.length_range]
theorem prow_get {s k : Nat} (h : k ≤ s) : (prow s)[k]? = some (.int (ch s k : Nat)) := by
  unfold prow
  rw [List.getElem?_map, List.getElem?_eq_getElem (by rw [List.length_range]; omega), List.getElem_range]
  rfl
theorem prow_succ (s : Nat) : prow (s + 1) = [PyData.int 1] ++ (List.range s).map (fun k : Nat => PyData.int ((ch s k + ch s (k + 1) : Nat) : Int)) ++ [PyData.int 1] := by
  unfold prow
  rw [List.range_succ, List.map_append, List.range_succ_eq_map, List.map_cons, List.map_map]
  have e : ((fun k : Nat => PyData.int (ch (s + 1) k : Nat)) ∘ Nat.succ) = fun k : Nat => PyData.int ((ch s k + ch s (k + 1) : Nat) : Int) := rfl
  rw [e, ch_zero]
  simp only [List.map_cons, List.map_nil, ch_self, List.cons_append, List.nil_append]
  rfl
theorem r_lbinomial : ∀ ds Q Xe, ft_law_binomial ds Q Xe → a__law_binomial (endA Q Xe) (startS ["long", "ones", "row", "step", "k"] ds) := by
  rintro ds Q Xe ⟨l, o, rfl, hl, hp⟩
  simp only [a__law_binomial_r3, a__law_binomial, AB.aSeq, AB.aAsg, AB.aIfS, AB.aDrop, AB.aRet, AB.aRetN, AB.aRetV, AB.aBrk, AB.aCt, AB.aFrz, AB.aApp, AB.aAug, AB.aRaise, AB.aPar, AB.aPar3, AB.aAsgT, AB.aNext, AB.aVar, AB.aC, AB.frz, AB.frzR, AB.toR, AB.aOp2, AB.aUn, AB.aNil, AB.aCons, AB.aCB, AB.aTB, AB.aTru, AB.aNotT, AB.aAndT, AB.aOrT, AB.aAndV, AB.aOrV, AB.aNotV, AB.aIf, AB.aChain, AB.aNoPart, AB.aPart, AB.aSl, AB.aTup, AB.aLst, AB.aCall, AB.aCallR, AB.aIsi, AB.aLc, AB.aFor, AB.aWhile, AB.aiR1, AB.aiR2, AB.aiR3, AB.aiU, AB.aiU.on1', AB.aiE, AB.agName, AB.agNil, AB.agCons, AB.agTup, AB.aTold, AB.aDrw, AB.aListR1, AB.aListR2, AB.aYes, AB.on1, AB.on2, AB.look, AB.lookAll, AB.datAll, AB.startS, AB.startR, AB.endA, AB.endR, AB.itemsD, AB.noOwn, AB.wipeS, AB.fAdd, AB.fSub, AB.fMul, AB.fDiv, AB.fMod, AB.fPow, AB.fShl, AB.fShr, AB.fAnd1, AB.fEq, AB.fNe, AB.fCmp, AB.fIs, AB.fIsNot, AB.fNeg, AB.fIx, AB.fSl, AB.fAbs, AB.fInt, AB.fMax2, AB.fMin2, AB.fLen, AB.fTupleOf, AB.fListOf, AB.fSum, AB.fLstRev, AB.isNoneD, AB.truD, AB.truOk, AB.isD_int_non, AB.isD_int_bl, AB.isD_int_int, AB.isD_int_str, AB.isD_int_lst, AB.isD_int_tup, AB.isD_bool_non, AB.isD_bool_bl, AB.isD_bool_int, AB.isD_bool_str, AB.isD_bool_lst, AB.isD_bool_tup, AB.isD_list_non, AB.isD_list_bl, AB.isD_list_int, AB.isD_list_str, AB.isD_list_lst, AB.isD_list_tup, AB.isD_tuple_non, AB.isD_tuple_bl, AB.isD_tuple_int, AB.isD_tuple_str, AB.isD_tuple_lst, AB.isD_tuple_tup, AB.isD_str_non, AB.isD_str_bl, AB.isD_str_int, AB.isD_str_str, AB.isD_str_lst, AB.isD_str_tup, List.map_cons, List.map_nil, List.length_cons, List.length_nil, List.replicate_succ, List.replicate_zero, List.cons_append, List.nil_append, List.append_nil, List.set_cons_zero, List.set_cons_succ, List.set_nil, List.getElem?_cons_zero, List.getElem?_cons_succ, List.getElem?_nil, Nat.sub_self, Nat.reduceAdd, Nat.reduceSub, Nat.zero_add, Nat.add_zero, Bool.false_eq_true, if_false, if_true, Bool.not_true, Bool.not_false, reduceIte]
  refine ⟨by decide, by omega, by omega, fun t s => t ≤ l ∧ ∃ x, s = [.val (.int l), .val (.int o), .val (.list (prow t)), x, .no], ⟨by omega, .no, rfl⟩, ?_, ?_⟩
  · rintro t d s hd ⟨ht, x, rfl⟩
    rw [Int.toNat_natCast] at hd
    obtain ⟨ht2, rfl⟩ := rangeD_get hd
    simp only [a__law_binomial_2, AB.aSeq, AB.aAsg, AB.aIfS, AB.aDrop, AB.aRet, AB.aRetN, AB.aRetV, AB.aBrk, AB.aCt, AB.aFrz, AB.aApp, AB.aAug, AB.aRaise, AB.aPar, AB.aPar3, AB.aAsgT, AB.aNext, AB.aVar, AB.aC, AB.frz, AB.frzR, AB.toR, AB.aOp2, AB.aUn, AB.aNil, AB.aCons, AB.aCB, AB.aTB, AB.aTru, AB.aNotT, AB.aAndT, AB.aOrT, AB.aAndV, AB.aOrV, AB.aNotV, AB.aIf, AB.aChain, AB.aNoPart, AB.aPart, AB.aSl, AB.aTup, AB.aLst, AB.aCall, AB.aCallR, AB.aIsi, AB.aLc, AB.aFor, AB.aWhile, AB.aiR1, AB.aiR2, AB.aiR3, AB.aiU, AB.aiU.on1', AB.aiE, AB.agName, AB.agNil, AB.agCons, AB.agTup, AB.aTold, AB.aDrw, AB.aListR1, AB.aListR2, AB.aYes, AB.on1, AB.on2, AB.look, AB.lookAll, AB.datAll, AB.startS, AB.startR, AB.endA, AB.endR, AB.itemsD, AB.noOwn, AB.wipeS, AB.fAdd, AB.fSub, AB.fMul, AB.fDiv, AB.fMod, AB.fPow, AB.fShl, AB.fShr, AB.fAnd1, AB.fEq, AB.fNe, AB.fCmp, AB.fIs, AB.fIsNot, AB.fNeg, AB.fIx, AB.fSl, AB.fAbs, AB.fInt, AB.fMax2, AB.fMin2, AB.fLen, AB.fTupleOf, AB.fListOf, AB.fSum, AB.fLstRev, AB.isNoneD, AB.truD, AB.truOk, AB.isD_int_non, AB.isD_int_bl, AB.isD_int_int, AB.isD_int_str, AB.isD_int_lst, AB.isD_int_tup, AB.isD_bool_non, AB.isD_bool_bl, AB.isD_bool_int, AB.isD_bool_str, AB.isD_bool_lst, AB.isD_bool_tup, AB.isD_list_non, AB.isD_list_bl, AB.isD_list_int, AB.isD_list_str, AB.isD_list_lst, AB.isD_list_tup, AB.isD_tuple_non, AB.isD_tuple_bl, AB.isD_tuple_int, AB.isD_tuple_str, AB.isD_tuple_lst, AB.isD_tuple_tup, AB.isD_str_non, AB.isD_str_bl, AB.isD_str_int, AB.isD_str_str, AB.isD_str_lst, AB.isD_str_tup, List.map_cons, List.map_nil, List.length_cons, List.length_nil, List.replicate_succ, List.replicate_zero, List.cons_append, List.nil_append, List.append_nil, List.set_cons_zero, List.set_cons_succ, List.set_nil, List.getElem?_cons_zero, List.getElem?_cons_succ, List.getElem?_nil, Nat.sub_self, Nat.reduceAdd, Nat.reduceSub, Nat.zero_add, Nat.add_zero, Bool.false_eq_true, if_false, if_true, Bool.not_true, Bool.not_false, reduceIte]
    rw [prow_len]
    have e1 : (((t + 1 : Nat) : Int) - 1) = (t : Int) := by omega
    rw [e1, Int.toNat_natCast, rangeD_len]
    refine ⟨by decide, rfl, by omega, by omega, by omega, fun k acc => acc = ((List.range t).map (fun k : Nat => PyData.int ((ch t k + ch t (k + 1) : Nat) : Int))).take k, rfl, ?_, ?_⟩
    · rintro k d acc hd rfl
      obtain ⟨hk, rfl⟩ := rangeD_get hd
      simp only [a__law_binomial_1, AB.aSeq, AB.aAsg, AB.aIfS, AB.aDrop, AB.aRet, AB.aRetN, AB.aRetV, AB.aBrk, AB.aCt, AB.aFrz, AB.aApp, AB.aAug, AB.aRaise, AB.aPar, AB.aPar3, AB.aAsgT, AB.aNext, AB.aVar, AB.aC, AB.frz, AB.frzR, AB.toR, AB.aOp2, AB.aUn, AB.aNil, AB.aCons, AB.aCB, AB.aTB, AB.aTru, AB.aNotT, AB.aAndT, AB.aOrT, AB.aAndV, AB.aOrV, AB.aNotV, AB.aIf, AB.aChain, AB.aNoPart, AB.aPart, AB.aSl, AB.aTup, AB.aLst, AB.aCall, AB.aCallR, AB.aIsi, AB.aLc, AB.aFor, AB.aWhile, AB.aiR1, AB.aiR2, AB.aiR3, AB.aiU, AB.aiU.on1', AB.aiE, AB.agName, AB.agNil, AB.agCons, AB.agTup, AB.aTold, AB.aDrw, AB.aListR1, AB.aListR2, AB.aYes, AB.on1, AB.on2, AB.look, AB.lookAll, AB.datAll, AB.startS, AB.startR, AB.endA, AB.endR, AB.itemsD, AB.noOwn, AB.wipeS, AB.fAdd, AB.fSub, AB.fMul, AB.fDiv, AB.fMod, AB.fPow, AB.fShl, AB.fShr, AB.fAnd1, AB.fEq, AB.fNe, AB.fCmp, AB.fIs, AB.fIsNot, AB.fNeg, AB.fIx, AB.fSl, AB.fAbs, AB.fInt, AB.fMax2, AB.fMin2, AB.fLen, AB.fTupleOf, AB.fListOf, AB.fSum, AB.fLstRev, AB.isNoneD, AB.truD, AB.truOk, AB.isD_int_non, AB.isD_int_bl, AB.isD_int_int, AB.isD_int_str, AB.isD_int_lst, AB.isD_int_tup, AB.isD_bool_non, AB.isD_bool_bl, AB.isD_bool_int, AB.isD_bool_str, AB.isD_bool_lst, AB.isD_bool_tup, AB.isD_list_non, AB.isD_list_bl, AB.isD_list_int, AB.isD_list_str, AB.isD_list_lst, AB.isD_list_tup, AB.isD_tuple_non, AB.isD_tuple_bl, AB.isD_tuple_int, AB.isD_tuple_str, AB.isD_tuple_lst, AB.isD_tuple_tup, AB.isD_str_non, AB.isD_str_bl, AB.isD_str_int, AB.isD_str_str, AB.isD_str_lst, AB.isD_str_tup, List.map_cons, List.map_nil, List.length_cons, List.length_nil, List.replicate_succ, List.replicate_zero, List.cons_append, List.nil_append, List.append_nil, List.set_cons_zero, List.set_cons_succ, List.set_nil, List.getElem?_cons_zero, List.getElem?_cons_succ, List.getElem?_nil, Nat.sub_self, Nat.reduceAdd, Nat.reduceSub, Nat.zero_add, Nat.add_zero, Bool.false_eq_true, if_false, if_true, Bool.not_true, Bool.not_false, reduceIte, Int.zero_add]
      refine ⟨.int (ch t k : Nat), atI_nat (j := k) (prow_get (by omega)), ?_⟩
      rw [show ((k : Int) + 1) = ((k + 1 : Nat) : Int) by omega]
      refine ⟨.int (ch t (k + 1) : Nat), atI_nat (j := k + 1) (prow_get (by omega)), ?_⟩
      rw [List.take_succ, List.getElem?_map, List.getElem?_eq_getElem (by rw [List.length_range]; exact hk), List.getElem_range]
      rfl
    · rintro acc rfl
      rw [List.take_of_length_le (by rw [List.length_map, List.length_range]; exact Nat.le_refl _)]
      refine ⟨?_, by decide, ?_, by omega, .val (.int (0 + (t : Int))), ?_⟩
      · rw [List.length_map, List.length_range]
        omega
      · rw [List.length_map, List.length_range]
        omega
      · rw [prow_succ]
        rfl
  · rintro s ⟨_, x, rfl⟩
    rw [rangeD_len, Int.toNat_natCast]
    simp only [AB.aSeq, AB.aAsg, AB.aIfS, AB.aDrop, AB.aRet, AB.aRetN, AB.aRetV, AB.aBrk, AB.aCt, AB.aFrz, AB.aApp, AB.aAug, AB.aRaise, AB.aPar, AB.aPar3, AB.aAsgT, AB.aNext, AB.aVar, AB.aC, AB.frz, AB.frzR, AB.toR, AB.aOp2, AB.aUn, AB.aNil, AB.aCons, AB.aCB, AB.aTB, AB.aTru, AB.aNotT, AB.aAndT, AB.aOrT, AB.aAndV, AB.aOrV, AB.aNotV, AB.aIf, AB.aChain, AB.aNoPart, AB.aPart, AB.aSl, AB.aTup, AB.aLst, AB.aCall, AB.aCallR, AB.aIsi, AB.aLc, AB.aFor, AB.aWhile, AB.aiR1, AB.aiR2, AB.aiR3, AB.aiU, AB.aiU.on1', AB.aiE, AB.agName, AB.agNil, AB.agCons, AB.agTup, AB.aTold, AB.aDrw, AB.aListR1, AB.aListR2, AB.aYes, AB.on1, AB.on2, AB.look, AB.lookAll, AB.datAll, AB.startS, AB.startR, AB.endA, AB.endR, AB.itemsD, AB.noOwn, AB.wipeS, AB.fAdd, AB.fSub, AB.fMul, AB.fDiv, AB.fMod, AB.fPow, AB.fShl, AB.fShr, AB.fAnd1, AB.fEq, AB.fNe, AB.fCmp, AB.fIs, AB.fIsNot, AB.fNeg, AB.fIx, AB.fSl, AB.fAbs, AB.fInt, AB.fMax2, AB.fMin2, AB.fLen, AB.fTupleOf, AB.fListOf, AB.fSum, AB.fLstRev, AB.isNoneD, AB.truD, AB.truOk, AB.isD_int_non, AB.isD_int_bl, AB.isD_int_int, AB.isD_int_str, AB.isD_int_lst, AB.isD_int_tup, AB.isD_bool_non, AB.isD_bool_bl, AB.isD_bool_int, AB.isD_bool_str, AB.isD_bool_lst, AB.isD_bool_tup, AB.isD_list_non, AB.isD_list_bl, AB.isD_list_int, AB.isD_list_str, AB.isD_list_lst, AB.isD_list_tup, AB.isD_tuple_non, AB.isD_tuple_bl, AB.isD_tuple_int, AB.isD_tuple_str, AB.isD_tuple_lst, AB.isD_tuple_tup, AB.isD_str_non, AB.isD_str_bl, AB.isD_str_int, AB.isD_str_str, AB.isD_str_lst, AB.isD_str_tup, List.map_cons, List.map_nil, List.length_cons, List.length_nil, List.replicate_succ, List.replicate_zero, List.cons_append, List.nil_append, List.append_nil, List.set_cons_zero, List.set_cons_succ, List.set_nil, List.getElem?_cons_zero, List.getElem?_cons_succ, List.getElem?_nil, Nat.sub_self, Nat.reduceAdd, Nat.reduceSub, Nat.zero_add, Nat.add_zero, Bool.false_eq_true, if_false, if_true, Bool.not_true, Bool.not_false, reduceIte, decide_eq_true_eq]
    by_cases h0 : 0 ≤ o
    · rw [if_pos h0]
      by_cases h1 : o ≤ (l : Int)
      · rw [if_pos h1]
        obtain ⟨k, rfl⟩ : ∃ k : Nat, o = (k : Int) := ⟨o.toNat, by omega⟩
        rw [chI_nat] at hp
        exact ⟨.int (ch l k : Nat), atI_nat (j := k) (prow_get (by omega)), hp⟩
      · rw [if_neg h1]
        rw [chI_gt (by omega)] at hp
        exact hp
    · rw [if_neg h0]
      rw [chI_neg (by omega)] at hp
      exact hp
theorem r_lbits (n : Nat) : ∀ ds Q Xe, ft_law_bits_for' (n + 1) ds Q Xe → a__law_bits_for n (endA Q Xe) (startS ["many"] ds) := by
  rintro ds Q Xe ⟨m, rfl, hm, hp⟩
  simp only [a__law_bits_for, AB.aSeq, AB.aAsg, AB.aIfS, AB.aDrop, AB.aRet, AB.aRetN, AB.aRetV, AB.aBrk, AB.aCt, AB.aFrz, AB.aApp, AB.aAug, AB.aRaise, AB.aPar, AB.aPar3, AB.aAsgT, AB.aNext, AB.aVar, AB.aC, AB.frz, AB.frzR, AB.toR, AB.aOp2, AB.aUn, AB.aNil, AB.aCons, AB.aCB, AB.aTB, AB.aTru, AB.aNotT, AB.aAndT, AB.aOrT, AB.aAndV, AB.aOrV, AB.aNotV, AB.aIf, AB.aChain, AB.aNoPart, AB.aPart, AB.aSl, AB.aTup, AB.aLst, AB.aCall, AB.aCallR, AB.aIsi, AB.aLc, AB.aFor, AB.aWhile, AB.aiR1, AB.aiR2, AB.aiR3, AB.aiU, AB.aiU.on1', AB.aiE, AB.agName, AB.agNil, AB.agCons, AB.agTup, AB.aTold, AB.aDrw, AB.aListR1, AB.aListR2, AB.aYes, AB.on1, AB.on2, AB.look, AB.lookAll, AB.datAll, AB.startS, AB.startR, AB.endA, AB.endR, AB.itemsD, AB.noOwn, AB.wipeS, AB.fAdd, AB.fSub, AB.fMul, AB.fDiv, AB.fMod, AB.fPow, AB.fShl, AB.fShr, AB.fAnd1, AB.fEq, AB.fNe, AB.fCmp, AB.fIs, AB.fIsNot, AB.fNeg, AB.fIx, AB.fSl, AB.fAbs, AB.fInt, AB.fMax2, AB.fMin2, AB.fLen, AB.fTupleOf, AB.fListOf, AB.fSum, AB.fLstRev, AB.isNoneD, AB.truD, AB.truOk, AB.isD_int_non, AB.isD_int_bl, AB.isD_int_int, AB.isD_int_str, AB.isD_int_lst, AB.isD_int_tup, AB.isD_bool_non, AB.isD_bool_bl, AB.isD_bool_int, AB.isD_bool_str, AB.isD_bool_lst, AB.isD_bool_tup, AB.isD_list_non, AB.isD_list_bl, AB.isD_list_int, AB.isD_list_str, AB.isD_list_lst, AB.isD_list_tup, AB.isD_tuple_non, AB.isD_tuple_bl, AB.isD_tuple_int, AB.isD_tuple_str, AB.isD_tuple_lst, AB.isD_tuple_tup, AB.isD_str_non, AB.isD_str_bl, AB.isD_str_int, AB.isD_str_str, AB.isD_str_lst, AB.isD_str_tup, List.map_cons, List.map_nil, List.length_cons, List.length_nil, List.replicate_succ, List.replicate_zero, List.cons_append, List.nil_append, List.append_nil, List.set_cons_zero, List.set_cons_succ, List.set_nil, List.getElem?_cons_zero, List.getElem?_cons_succ, List.getElem?_nil, Nat.sub_self, Nat.reduceAdd, Nat.reduceSub, Nat.zero_add, Nat.add_zero, Bool.false_eq_true, if_false, if_true, Bool.not_true, Bool.not_false, reduceIte, decide_eq_true_eq]
  by_cases h : (m : Int) < 2
  · rw [if_pos h]
    rw [bf_small (by omega)] at hp
    exact hp
  · rw [if_neg h]
    have hb := bf_half (m := m) (by omega)
    cases n with
    | zero => omega
    | succ n =>
      refine ⟨dok (by decide) (by decide), (m + 1) / 2, ?_, by omega, ?_⟩
      · rfl
      · rw [hb] at hp
        exact hp
/-! told -/
theorem r_told (C : Nat → Addr) : ∀ ds Q Xe, ft_law_told ds Q Xe → a__law_told C (endA Q Xe) (startS ["which", "long", "ones", "rank", "e"] ds) := by
  rintro ds Q Xe (⟨l, o, d, rfl, hl, hp⟩ | ⟨a, b, d, rfl, fa, fb, hbad, hp⟩ | ⟨l, o, r, rfl, hl, hr, hp⟩ | ⟨l, o, d, rfl, hl, fd, hn, hp⟩)
  · simp only [a__law_told, AB.aSeq, AB.aAsg, AB.aIfS, AB.aDrop, AB.aRet, AB.aRetN, AB.aRetV, AB.aBrk, AB.aCt, AB.aFrz, AB.aApp, AB.aAug, AB.aRaise, AB.aPar, AB.aPar3, AB.aAsgT, AB.aNext, AB.aVar, AB.aC, AB.frz, AB.frzR, AB.toR, AB.aOp2, AB.aUn, AB.aNil, AB.aCons, AB.aCB, AB.aTB, AB.aTru, AB.aNotT, AB.aAndT, AB.aOrT, AB.aAndV, AB.aOrV, AB.aNotV, AB.aIf, AB.aChain, AB.aNoPart, AB.aPart, AB.aSl, AB.aTup, AB.aLst, AB.aCall, AB.aCallR, AB.aIsi, AB.aLc, AB.aFor, AB.aWhile, AB.aiR1, AB.aiR2, AB.aiR3, AB.aiU, AB.aiU.on1', AB.aiE, AB.agName, AB.agNil, AB.agCons, AB.agTup, AB.aTold, AB.aDrw, AB.aListR1, AB.aListR2, AB.aYes, AB.on1, AB.on2, AB.look, AB.lookAll, AB.datAll, AB.startS, AB.startR, AB.endA, AB.endR, AB.itemsD, AB.noOwn, AB.wipeS, AB.fAdd, AB.fSub, AB.fMul, AB.fDiv, AB.fMod, AB.fPow, AB.fShl, AB.fShr, AB.fAnd1, AB.fEq, AB.fNe, AB.fCmp, AB.fIs, AB.fIsNot, AB.fNeg, AB.fIx, AB.fSl, AB.fAbs, AB.fInt, AB.fMax2, AB.fMin2, AB.fLen, AB.fTupleOf, AB.fListOf, AB.fSum, AB.fLstRev, AB.isNoneD, AB.truD, AB.truOk, AB.isD_int_non, AB.isD_int_bl, AB.isD_int_int, AB.isD_int_str, AB.isD_int_lst, AB.isD_int_tup, AB.isD_bool_non, AB.isD_bool_bl, AB.isD_bool_int, AB.isD_bool_str, AB.isD_bool_lst, AB.isD_bool_tup, AB.isD_list_non, AB.isD_list_bl, AB.isD_list_int, AB.isD_list_str, AB.isD_list_lst, AB.isD_list_tup, AB.isD_tuple_non, AB.isD_tuple_bl, AB.isD_tuple_int, AB.isD_tuple_str, AB.isD_tuple_lst, AB.isD_tuple_tup, AB.isD_str_non, AB.isD_str_bl, AB.isD_str_int, AB.isD_str_str, AB.isD_str_lst, AB.isD_str_tup, List.map_cons, List.map_nil, List.length_cons, List.length_nil, List.replicate_succ, List.replicate_zero, List.cons_append, List.nil_append, List.append_nil, List.set_cons_zero, List.set_cons_succ, List.set_nil, List.getElem?_cons_zero, List.getElem?_cons_succ, List.getElem?_nil, Nat.sub_self, Nat.reduceAdd, Nat.reduceSub, Nat.zero_add, Nat.add_zero, Bool.false_eq_true, if_false, if_true, Bool.not_true, Bool.not_false, reduceIte]
    refine ⟨shaped_int _, shaped_int _, ?_⟩
    rw [eqv_ii]
    simp only [AB.aSeq, AB.aAsg, AB.aIfS, AB.aDrop, AB.aRet, AB.aRetN, AB.aRetV, AB.aBrk, AB.aCt, AB.aFrz, AB.aApp, AB.aAug, AB.aRaise, AB.aPar, AB.aPar3, AB.aAsgT, AB.aNext, AB.aVar, AB.aC, AB.frz, AB.frzR, AB.toR, AB.aOp2, AB.aUn, AB.aNil, AB.aCons, AB.aCB, AB.aTB, AB.aTru, AB.aNotT, AB.aAndT, AB.aOrT, AB.aAndV, AB.aOrV, AB.aNotV, AB.aIf, AB.aChain, AB.aNoPart, AB.aPart, AB.aSl, AB.aTup, AB.aLst, AB.aCall, AB.aCallR, AB.aIsi, AB.aLc, AB.aFor, AB.aWhile, AB.aiR1, AB.aiR2, AB.aiR3, AB.aiU, AB.aiU.on1', AB.aiE, AB.agName, AB.agNil, AB.agCons, AB.agTup, AB.aTold, AB.aDrw, AB.aListR1, AB.aListR2, AB.aYes, AB.on1, AB.on2, AB.look, AB.lookAll, AB.datAll, AB.startS, AB.startR, AB.endA, AB.endR, AB.itemsD, AB.noOwn, AB.wipeS, AB.fAdd, AB.fSub, AB.fMul, AB.fDiv, AB.fMod, AB.fPow, AB.fShl, AB.fShr, AB.fAnd1, AB.fEq, AB.fNe, AB.fCmp, AB.fIs, AB.fIsNot, AB.fNeg, AB.fIx, AB.fSl, AB.fAbs, AB.fInt, AB.fMax2, AB.fMin2, AB.fLen, AB.fTupleOf, AB.fListOf, AB.fSum, AB.fLstRev, AB.isNoneD, AB.truD, AB.truOk, AB.isD_int_non, AB.isD_int_bl, AB.isD_int_int, AB.isD_int_str, AB.isD_int_lst, AB.isD_int_tup, AB.isD_bool_non, AB.isD_bool_bl, AB.isD_bool_int, AB.isD_bool_str, AB.isD_bool_lst, AB.isD_bool_tup, AB.isD_list_non, AB.isD_list_bl, AB.isD_list_int, AB.isD_list_str, AB.isD_list_lst, AB.isD_list_tup, AB.isD_tuple_non, AB.isD_tuple_bl, AB.isD_tuple_int, AB.isD_tuple_str, AB.isD_tuple_lst, AB.isD_tuple_tup, AB.isD_str_non, AB.isD_str_bl, AB.isD_str_int, AB.isD_str_str, AB.isD_str_lst, AB.isD_str_tup, List.map_cons, List.map_nil, List.length_cons, List.length_nil, List.replicate_succ, List.replicate_zero, List.cons_append, List.nil_append, List.append_nil, List.set_cons_zero, List.set_cons_succ, List.set_nil, List.getElem?_cons_zero, List.getElem?_cons_succ, List.getElem?_nil, Nat.sub_self, Nat.reduceAdd, Nat.reduceSub, Nat.zero_add, Nat.add_zero, Bool.false_eq_true, if_false, if_true, Bool.not_true, Bool.not_false, reduceIte]
    exact .inl ⟨l, o, rfl, hl, hp⟩
  · simp only [a__law_told, AB.aSeq, AB.aAsg, AB.aIfS, AB.aDrop, AB.aRet, AB.aRetN, AB.aRetV, AB.aBrk, AB.aCt, AB.aFrz, AB.aApp, AB.aAug, AB.aRaise, AB.aPar, AB.aPar3, AB.aAsgT, AB.aNext, AB.aVar, AB.aC, AB.frz, AB.frzR, AB.toR, AB.aOp2, AB.aUn, AB.aNil, AB.aCons, AB.aCB, AB.aTB, AB.aTru, AB.aNotT, AB.aAndT, AB.aOrT, AB.aAndV, AB.aOrV, AB.aNotV, AB.aIf, AB.aChain, AB.aNoPart, AB.aPart, AB.aSl, AB.aTup, AB.aLst, AB.aCall, AB.aCallR, AB.aIsi, AB.aLc, AB.aFor, AB.aWhile, AB.aiR1, AB.aiR2, AB.aiR3, AB.aiU, AB.aiU.on1', AB.aiE, AB.agName, AB.agNil, AB.agCons, AB.agTup, AB.aTold, AB.aDrw, AB.aListR1, AB.aListR2, AB.aYes, AB.on1, AB.on2, AB.look, AB.lookAll, AB.datAll, AB.startS, AB.startR, AB.endA, AB.endR, AB.itemsD, AB.noOwn, AB.wipeS, AB.fAdd, AB.fSub, AB.fMul, AB.fDiv, AB.fMod, AB.fPow, AB.fShl, AB.fShr, AB.fAnd1, AB.fEq, AB.fNe, AB.fCmp, AB.fIs, AB.fIsNot, AB.fNeg, AB.fIx, AB.fSl, AB.fAbs, AB.fInt, AB.fMax2, AB.fMin2, AB.fLen, AB.fTupleOf, AB.fListOf, AB.fSum, AB.fLstRev, AB.isNoneD, AB.truD, AB.truOk, AB.isD_int_non, AB.isD_int_bl, AB.isD_int_int, AB.isD_int_str, AB.isD_int_lst, AB.isD_int_tup, AB.isD_bool_non, AB.isD_bool_bl, AB.isD_bool_int, AB.isD_bool_str, AB.isD_bool_lst, AB.isD_bool_tup, AB.isD_list_non, AB.isD_list_bl, AB.isD_list_int, AB.isD_list_str, AB.isD_list_lst, AB.isD_list_tup, AB.isD_tuple_non, AB.isD_tuple_bl, AB.isD_tuple_int, AB.isD_tuple_str, AB.isD_tuple_lst, AB.isD_tuple_tup, AB.isD_str_non, AB.isD_str_bl, AB.isD_str_int, AB.isD_str_str, AB.isD_str_lst, AB.isD_str_tup, List.map_cons, List.map_nil, List.length_cons, List.length_nil, List.replicate_succ, List.replicate_zero, List.cons_append, List.nil_append, List.append_nil, List.set_cons_zero, List.set_cons_succ, List.set_nil, List.getElem?_cons_zero, List.getElem?_cons_succ, List.getElem?_nil, Nat.sub_self, Nat.reduceAdd, Nat.reduceSub, Nat.zero_add, Nat.add_zero, Bool.false_eq_true, if_false, if_true, Bool.not_true, Bool.not_false, reduceIte]
    refine ⟨shaped_int _, shaped_int _, ?_⟩
    rw [eqv_ii]
    simp only [AB.aSeq, AB.aAsg, AB.aIfS, AB.aDrop, AB.aRet, AB.aRetN, AB.aRetV, AB.aBrk, AB.aCt, AB.aFrz, AB.aApp, AB.aAug, AB.aRaise, AB.aPar, AB.aPar3, AB.aAsgT, AB.aNext, AB.aVar, AB.aC, AB.frz, AB.frzR, AB.toR, AB.aOp2, AB.aUn, AB.aNil, AB.aCons, AB.aCB, AB.aTB, AB.aTru, AB.aNotT, AB.aAndT, AB.aOrT, AB.aAndV, AB.aOrV, AB.aNotV, AB.aIf, AB.aChain, AB.aNoPart, AB.aPart, AB.aSl, AB.aTup, AB.aLst, AB.aCall, AB.aCallR, AB.aIsi, AB.aLc, AB.aFor, AB.aWhile, AB.aiR1, AB.aiR2, AB.aiR3, AB.aiU, AB.aiU.on1', AB.aiE, AB.agName, AB.agNil, AB.agCons, AB.agTup, AB.aTold, AB.aDrw, AB.aListR1, AB.aListR2, AB.aYes, AB.on1, AB.on2, AB.look, AB.lookAll, AB.datAll, AB.startS, AB.startR, AB.endA, AB.endR, AB.itemsD, AB.noOwn, AB.wipeS, AB.fAdd, AB.fSub, AB.fMul, AB.fDiv, AB.fMod, AB.fPow, AB.fShl, AB.fShr, AB.fAnd1, AB.fEq, AB.fNe, AB.fCmp, AB.fIs, AB.fIsNot, AB.fNeg, AB.fIx, AB.fSl, AB.fAbs, AB.fInt, AB.fMax2, AB.fMin2, AB.fLen, AB.fTupleOf, AB.fListOf, AB.fSum, AB.fLstRev, AB.isNoneD, AB.truD, AB.truOk, AB.isD_int_non, AB.isD_int_bl, AB.isD_int_int, AB.isD_int_str, AB.isD_int_lst, AB.isD_int_tup, AB.isD_bool_non, AB.isD_bool_bl, AB.isD_bool_int, AB.isD_bool_str, AB.isD_bool_lst, AB.isD_bool_tup, AB.isD_list_non, AB.isD_list_bl, AB.isD_list_int, AB.isD_list_str, AB.isD_list_lst, AB.isD_list_tup, AB.isD_tuple_non, AB.isD_tuple_bl, AB.isD_tuple_int, AB.isD_tuple_str, AB.isD_tuple_lst, AB.isD_tuple_tup, AB.isD_str_non, AB.isD_str_bl, AB.isD_str_int, AB.isD_str_str, AB.isD_str_lst, AB.isD_str_tup, List.map_cons, List.map_nil, List.length_cons, List.length_nil, List.replicate_succ, List.replicate_zero, List.cons_append, List.nil_append, List.append_nil, List.set_cons_zero, List.set_cons_succ, List.set_nil, List.getElem?_cons_zero, List.getElem?_cons_succ, List.getElem?_nil, Nat.sub_self, Nat.reduceAdd, Nat.reduceSub, Nat.zero_add, Nat.add_zero, Bool.false_eq_true, if_false, if_true, Bool.not_true, Bool.not_false, reduceIte]
    exact .inr ⟨a, b, rfl, fa, fb, hbad, by omega, 0, by decide, rfl, hp⟩
  · simp only [a__law_told, AB.aSeq, AB.aAsg, AB.aIfS, AB.aDrop, AB.aRet, AB.aRetN, AB.aRetV, AB.aBrk, AB.aCt, AB.aFrz, AB.aApp, AB.aAug, AB.aRaise, AB.aPar, AB.aPar3, AB.aAsgT, AB.aNext, AB.aVar, AB.aC, AB.frz, AB.frzR, AB.toR, AB.aOp2, AB.aUn, AB.aNil, AB.aCons, AB.aCB, AB.aTB, AB.aTru, AB.aNotT, AB.aAndT, AB.aOrT, AB.aAndV, AB.aOrV, AB.aNotV, AB.aIf, AB.aChain, AB.aNoPart, AB.aPart, AB.aSl, AB.aTup, AB.aLst, AB.aCall, AB.aCallR, AB.aIsi, AB.aLc, AB.aFor, AB.aWhile, AB.aiR1, AB.aiR2, AB.aiR3, AB.aiU, AB.aiU.on1', AB.aiE, AB.agName, AB.agNil, AB.agCons, AB.agTup, AB.aTold, AB.aDrw, AB.aListR1, AB.aListR2, AB.aYes, AB.on1, AB.on2, AB.look, AB.lookAll, AB.datAll, AB.startS, AB.startR, AB.endA, AB.endR, AB.itemsD, AB.noOwn, AB.wipeS, AB.fAdd, AB.fSub, AB.fMul, AB.fDiv, AB.fMod, AB.fPow, AB.fShl, AB.fShr, AB.fAnd1, AB.fEq, AB.fNe, AB.fCmp, AB.fIs, AB.fIsNot, AB.fNeg, AB.fIx, AB.fSl, AB.fAbs, AB.fInt, AB.fMax2, AB.fMin2, AB.fLen, AB.fTupleOf, AB.fListOf, AB.fSum, AB.fLstRev, AB.isNoneD, AB.truD, AB.truOk, AB.isD_int_non, AB.isD_int_bl, AB.isD_int_int, AB.isD_int_str, AB.isD_int_lst, AB.isD_int_tup, AB.isD_bool_non, AB.isD_bool_bl, AB.isD_bool_int, AB.isD_bool_str, AB.isD_bool_lst, AB.isD_bool_tup, AB.isD_list_non, AB.isD_list_bl, AB.isD_list_int, AB.isD_list_str, AB.isD_list_lst, AB.isD_list_tup, AB.isD_tuple_non, AB.isD_tuple_bl, AB.isD_tuple_int, AB.isD_tuple_str, AB.isD_tuple_lst, AB.isD_tuple_tup, AB.isD_str_non, AB.isD_str_bl, AB.isD_str_int, AB.isD_str_str, AB.isD_str_lst, AB.isD_str_tup, List.map_cons, List.map_nil, List.length_cons, List.length_nil, List.replicate_succ, List.replicate_zero, List.cons_append, List.nil_append, List.append_nil, List.set_cons_zero, List.set_cons_succ, List.set_nil, List.getElem?_cons_zero, List.getElem?_cons_succ, List.getElem?_nil, Nat.sub_self, Nat.reduceAdd, Nat.reduceSub, Nat.zero_add, Nat.add_zero, Bool.false_eq_true, if_false, if_true, Bool.not_true, Bool.not_false, reduceIte]
    refine ⟨shaped_int _, shaped_int _, ?_⟩
    rw [show PyData.eqv (.int 1) (.int 0) = false from rfl]
    simp only [AB.aSeq, AB.aAsg, AB.aIfS, AB.aDrop, AB.aRet, AB.aRetN, AB.aRetV, AB.aBrk, AB.aCt, AB.aFrz, AB.aApp, AB.aAug, AB.aRaise, AB.aPar, AB.aPar3, AB.aAsgT, AB.aNext, AB.aVar, AB.aC, AB.frz, AB.frzR, AB.toR, AB.aOp2, AB.aUn, AB.aNil, AB.aCons, AB.aCB, AB.aTB, AB.aTru, AB.aNotT, AB.aAndT, AB.aOrT, AB.aAndV, AB.aOrV, AB.aNotV, AB.aIf, AB.aChain, AB.aNoPart, AB.aPart, AB.aSl, AB.aTup, AB.aLst, AB.aCall, AB.aCallR, AB.aIsi, AB.aLc, AB.aFor, AB.aWhile, AB.aiR1, AB.aiR2, AB.aiR3, AB.aiU, AB.aiU.on1', AB.aiE, AB.agName, AB.agNil, AB.agCons, AB.agTup, AB.aTold, AB.aDrw, AB.aListR1, AB.aListR2, AB.aYes, AB.on1, AB.on2, AB.look, AB.lookAll, AB.datAll, AB.startS, AB.startR, AB.endA, AB.endR, AB.itemsD, AB.noOwn, AB.wipeS, AB.fAdd, AB.fSub, AB.fMul, AB.fDiv, AB.fMod, AB.fPow, AB.fShl, AB.fShr, AB.fAnd1, AB.fEq, AB.fNe, AB.fCmp, AB.fIs, AB.fIsNot, AB.fNeg, AB.fIx, AB.fSl, AB.fAbs, AB.fInt, AB.fMax2, AB.fMin2, AB.fLen, AB.fTupleOf, AB.fListOf, AB.fSum, AB.fLstRev, AB.isNoneD, AB.truD, AB.truOk, AB.isD_int_non, AB.isD_int_bl, AB.isD_int_int, AB.isD_int_str, AB.isD_int_lst, AB.isD_int_tup, AB.isD_bool_non, AB.isD_bool_bl, AB.isD_bool_int, AB.isD_bool_str, AB.isD_bool_lst, AB.isD_bool_tup, AB.isD_list_non, AB.isD_list_bl, AB.isD_list_int, AB.isD_list_str, AB.isD_list_lst, AB.isD_list_tup, AB.isD_tuple_non, AB.isD_tuple_bl, AB.isD_tuple_int, AB.isD_tuple_str, AB.isD_tuple_lst, AB.isD_tuple_tup, AB.isD_str_non, AB.isD_str_bl, AB.isD_str_int, AB.isD_str_str, AB.isD_str_lst, AB.isD_str_tup, List.map_cons, List.map_nil, List.length_cons, List.length_nil, List.replicate_succ, List.replicate_zero, List.cons_append, List.nil_append, List.append_nil, List.set_cons_zero, List.set_cons_succ, List.set_nil, List.getElem?_cons_zero, List.getElem?_cons_succ, List.getElem?_nil, Nat.sub_self, Nat.reduceAdd, Nat.reduceSub, Nat.zero_add, Nat.add_zero, Bool.false_eq_true, if_false, if_true, Bool.not_true, Bool.not_false, reduceIte]
    exact ⟨l, o, _, rfl, hl, rfl, .inl ⟨r, rfl, hr, hp⟩⟩
  · simp only [a__law_told, AB.aSeq, AB.aAsg, AB.aIfS, AB.aDrop, AB.aRet, AB.aRetN, AB.aRetV, AB.aBrk, AB.aCt, AB.aFrz, AB.aApp, AB.aAug, AB.aRaise, AB.aPar, AB.aPar3, AB.aAsgT, AB.aNext, AB.aVar, AB.aC, AB.frz, AB.frzR, AB.toR, AB.aOp2, AB.aUn, AB.aNil, AB.aCons, AB.aCB, AB.aTB, AB.aTru, AB.aNotT, AB.aAndT, AB.aOrT, AB.aAndV, AB.aOrV, AB.aNotV, AB.aIf, AB.aChain, AB.aNoPart, AB.aPart, AB.aSl, AB.aTup, AB.aLst, AB.aCall, AB.aCallR, AB.aIsi, AB.aLc, AB.aFor, AB.aWhile, AB.aiR1, AB.aiR2, AB.aiR3, AB.aiU, AB.aiU.on1', AB.aiE, AB.agName, AB.agNil, AB.agCons, AB.agTup, AB.aTold, AB.aDrw, AB.aListR1, AB.aListR2, AB.aYes, AB.on1, AB.on2, AB.look, AB.lookAll, AB.datAll, AB.startS, AB.startR, AB.endA, AB.endR, AB.itemsD, AB.noOwn, AB.wipeS, AB.fAdd, AB.fSub, AB.fMul, AB.fDiv, AB.fMod, AB.fPow, AB.fShl, AB.fShr, AB.fAnd1, AB.fEq, AB.fNe, AB.fCmp, AB.fIs, AB.fIsNot, AB.fNeg, AB.fIx, AB.fSl, AB.fAbs, AB.fInt, AB.fMax2, AB.fMin2, AB.fLen, AB.fTupleOf, AB.fListOf, AB.fSum, AB.fLstRev, AB.isNoneD, AB.truD, AB.truOk, AB.isD_int_non, AB.isD_int_bl, AB.isD_int_int, AB.isD_int_str, AB.isD_int_lst, AB.isD_int_tup, AB.isD_bool_non, AB.isD_bool_bl, AB.isD_bool_int, AB.isD_bool_str, AB.isD_bool_lst, AB.isD_bool_tup, AB.isD_list_non, AB.isD_list_bl, AB.isD_list_int, AB.isD_list_str, AB.isD_list_lst, AB.isD_list_tup, AB.isD_tuple_non, AB.isD_tuple_bl, AB.isD_tuple_int, AB.isD_tuple_str, AB.isD_tuple_lst, AB.isD_tuple_tup, AB.isD_str_non, AB.isD_str_bl, AB.isD_str_int, AB.isD_str_str, AB.isD_str_lst, AB.isD_str_tup, List.map_cons, List.map_nil, List.length_cons, List.length_nil, List.replicate_succ, List.replicate_zero, List.cons_append, List.nil_append, List.append_nil, List.set_cons_zero, List.set_cons_succ, List.set_nil, List.getElem?_cons_zero, List.getElem?_cons_succ, List.getElem?_nil, Nat.sub_self, Nat.reduceAdd, Nat.reduceSub, Nat.zero_add, Nat.add_zero, Bool.false_eq_true, if_false, if_true, Bool.not_true, Bool.not_false, reduceIte]
    refine ⟨shaped_int _, shaped_int _, ?_⟩
    rw [show PyData.eqv (.int 1) (.int 0) = false from rfl]
    simp only [AB.aSeq, AB.aAsg, AB.aIfS, AB.aDrop, AB.aRet, AB.aRetN, AB.aRetV, AB.aBrk, AB.aCt, AB.aFrz, AB.aApp, AB.aAug, AB.aRaise, AB.aPar, AB.aPar3, AB.aAsgT, AB.aNext, AB.aVar, AB.aC, AB.frz, AB.frzR, AB.toR, AB.aOp2, AB.aUn, AB.aNil, AB.aCons, AB.aCB, AB.aTB, AB.aTru, AB.aNotT, AB.aAndT, AB.aOrT, AB.aAndV, AB.aOrV, AB.aNotV, AB.aIf, AB.aChain, AB.aNoPart, AB.aPart, AB.aSl, AB.aTup, AB.aLst, AB.aCall, AB.aCallR, AB.aIsi, AB.aLc, AB.aFor, AB.aWhile, AB.aiR1, AB.aiR2, AB.aiR3, AB.aiU, AB.aiU.on1', AB.aiE, AB.agName, AB.agNil, AB.agCons, AB.agTup, AB.aTold, AB.aDrw, AB.aListR1, AB.aListR2, AB.aYes, AB.on1, AB.on2, AB.look, AB.lookAll, AB.datAll, AB.startS, AB.startR, AB.endA, AB.endR, AB.itemsD, AB.noOwn, AB.wipeS, AB.fAdd, AB.fSub, AB.fMul, AB.fDiv, AB.fMod, AB.fPow, AB.fShl, AB.fShr, AB.fAnd1, AB.fEq, AB.fNe, AB.fCmp, AB.fIs, AB.fIsNot, AB.fNeg, AB.fIx, AB.fSl, AB.fAbs, AB.fInt, AB.fMax2, AB.fMin2, AB.fLen, AB.fTupleOf, AB.fListOf, AB.fSum, AB.fLstRev, AB.isNoneD, AB.truD, AB.truOk, AB.isD_int_non, AB.isD_int_bl, AB.isD_int_int, AB.isD_int_str, AB.isD_int_lst, AB.isD_int_tup, AB.isD_bool_non, AB.isD_bool_bl, AB.isD_bool_int, AB.isD_bool_str, AB.isD_bool_lst, AB.isD_bool_tup, AB.isD_list_non, AB.isD_list_bl, AB.isD_list_int, AB.isD_list_str, AB.isD_list_lst, AB.isD_list_tup, AB.isD_tuple_non, AB.isD_tuple_bl, AB.isD_tuple_int, AB.isD_tuple_str, AB.isD_tuple_lst, AB.isD_tuple_tup, AB.isD_str_non, AB.isD_str_bl, AB.isD_str_int, AB.isD_str_str, AB.isD_str_lst, AB.isD_str_tup, List.map_cons, List.map_nil, List.length_cons, List.length_nil, List.replicate_succ, List.replicate_zero, List.cons_append, List.nil_append, List.append_nil, List.set_cons_zero, List.set_cons_succ, List.set_nil, List.getElem?_cons_zero, List.getElem?_cons_succ, List.getElem?_nil, Nat.sub_self, Nat.reduceAdd, Nat.reduceSub, Nat.zero_add, Nat.add_zero, Bool.false_eq_true, if_false, if_true, Bool.not_true, Bool.not_false, reduceIte]
    exact ⟨l, o, _, rfl, hl, fd, .inr ⟨hn, by omega, 2, by decide, rfl, hp⟩⟩
/-! all rows -/
theorem rows_len : ∀ (l : Nat) (o : Int), (rows l o).length = chI l o
  | 0, o => by
    rw [chI_zero]
    show (if o = 0 then [[]] else [] : List (List Bool)).length = _
    split <;> rfl
  | l + 1, o => by
    show ((rows l o).map (false :: ·) ++ (rows l (o - 1)).map (true :: ·)).length = _
    rw [List.length_append, List.length_map, List.length_map, rows_len l o, rows_len l (o - 1), chI_succ]
theorem rows_get : ∀ (l : Nat) (o : Int) (r : Nat), r < chI l o → (rows l o)[r]? = some (unrank l o r)
  | 0, o, r, h => by
    rw [chI_zero] at h
    split at h
    · rename_i e
      have e2 : r = 0 := by omega
      subst e e2
      rfl
    · omega
  | l + 1, o, r, h => by
    show ((rows l o).map (false :: ·) ++ (rows l (o - 1)).map (true :: ·))[r]? = _
    by_cases hr : r < chI l o
    · rw [unrank_lt hr, List.getElem?_append_left (by rw [List.length_map, rows_len]; exact hr), List.getElem?_map, rows_get l o r hr]
      rfl
    · rw [chI_succ] at h
      rw [unrank_ge hr, List.getElem?_append_right (by rw [List.length_map, rows_len]; omega), List.getElem?_map, List.length_map, rows_len, rows_get l (o - 1) (r - chI l o) (by omega)]
      rfl
theorem map_take_succ {α β : Type} (f : α → β) (xs : List α) (k : Nat) (h : k < xs.length) : (xs.take (k + 1)).map f = (xs.take k).map f ++ [f xs[k]] := by
  rw [List.take_succ, List.getElem?_eq_getElem h, List.map_append]
  rfl
theorem rows_small {l : Nat} {o : Int} (h : l ≤ 8) : (rows l o).length ≤ 256 := by
  rw [rows_len]
  exact Nat.le_trans (chI_le l o) (Nat.pow_le_pow_right (by decide) h)
theorem rows_each : ∀ (l : Nat) (o : Int) (r : List Bool), r ∈ rows l o → r.length = l
  | 0, o, r, h => by
    have h' : r ∈ (if o = 0 then [[]] else [] : List (List Bool)) := h
    split at h'
    · rw [List.mem_singleton.mp h']
      rfl
    · cases h'
  | l + 1, o, r, h => by
    have h' : r ∈ ((rows l o).map (false :: ·) ++ (rows l (o - 1)).map (true :: ·)) := h
    rcases List.mem_append.mp h' with h | h
    · obtain ⟨x, hx, rfl⟩ := List.mem_map.mp h
      exact congrArg (· + 1) (rows_each l o x hx)
    · obtain ⟨x, hx, rfl⟩ := List.mem_map.mp h
      exact congrArg (· + 1) (rows_each l (o - 1) x hx)
end K15
namespace K15
open PySem PySem.Spec PyProof.Rows L2 AB
theorem rows_succ (l : Nat) (o : Int) : rows (l + 1) o = (rows l o).map (false :: ·) ++ (rows l (o - 1)).map (true :: ·) := rfl
theorem row_len (bs : List Bool) (h : bs.length ≤ 100) : (bs.map bD).length ≤ 100 := by
  rw [List.length_map]
  exact h
theorem r_lrows (n : Nat) (hn : n ≤ 8) : ∀ ds Q Xe, ft_law_rows' (n + 1) ds Q Xe → a__law_rows n (endA Q Xe) (startS ["long", "ones", "row"] ds) := by
  rintro ds Q Xe ⟨l, o, rfl, hl, hp⟩
  simp only [a__law_rows, AB.aSeq, AB.aAsg, AB.aIfS, AB.aDrop, AB.aRet, AB.aRetN, AB.aRetV, AB.aBrk, AB.aCt, AB.aFrz, AB.aApp, AB.aAug, AB.aRaise, AB.aPar, AB.aPar3, AB.aAsgT, AB.aNext, AB.aVar, AB.aC, AB.frz, AB.frzR, AB.toR, AB.aOp2, AB.aUn, AB.aNil, AB.aCons, AB.aCB, AB.aTB, AB.aTru, AB.aNotT, AB.aAndT, AB.aOrT, AB.aAndV, AB.aOrV, AB.aNotV, AB.aIf, AB.aChain, AB.aNoPart, AB.aPart, AB.aSl, AB.aTup, AB.aLst, AB.aCall, AB.aCallR, AB.aIsi, AB.aLc, AB.aFor, AB.aWhile, AB.aiR1, AB.aiR2, AB.aiR3, AB.aiU, AB.aiU.on1', AB.aiE, AB.agName, AB.agNil, AB.agCons, AB.agTup, AB.aTold, AB.aDrw, AB.aListR1, AB.aListR2, AB.aYes, AB.on1, AB.on2, AB.look, AB.lookAll, AB.datAll, AB.startS, AB.startR, AB.endA, AB.endR, AB.itemsD, AB.noOwn, AB.wipeS, AB.fAdd, AB.fSub, AB.fMul, AB.fDiv, AB.fMod, AB.fPow, AB.fShl, AB.fShr, AB.fAnd1, AB.fEq, AB.fNe, AB.fCmp, AB.fIs, AB.fIsNot, AB.fNeg, AB.fIx, AB.fSl, AB.fAbs, AB.fInt, AB.fMax2, AB.fMin2, AB.fLen, AB.fTupleOf, AB.fListOf, AB.fSum, AB.fLstRev, AB.isNoneD, AB.truD, AB.truOk, AB.isD_int_non, AB.isD_int_bl, AB.isD_int_int, AB.isD_int_str, AB.isD_int_lst, AB.isD_int_tup, AB.isD_bool_non, AB.isD_bool_bl, AB.isD_bool_int, AB.isD_bool_str, AB.isD_bool_lst, AB.isD_bool_tup, AB.isD_list_non, AB.isD_list_bl, AB.isD_list_int, AB.isD_list_str, AB.isD_list_lst, AB.isD_list_tup, AB.isD_tuple_non, AB.isD_tuple_bl, AB.isD_tuple_int, AB.isD_tuple_str, AB.isD_tuple_lst, AB.isD_tuple_tup, AB.isD_str_non, AB.isD_str_bl, AB.isD_str_int, AB.isD_str_str, AB.isD_str_lst, AB.isD_str_tup, List.map_cons, List.map_nil, List.length_cons, List.length_nil, List.replicate_succ, List.replicate_zero, List.cons_append, List.nil_append, List.append_nil, List.set_cons_zero, List.set_cons_succ, List.set_nil, List.getElem?_cons_zero, List.getElem?_cons_succ, List.getElem?_nil, Nat.sub_self, Nat.reduceAdd, Nat.reduceSub, Nat.zero_add, Nat.add_zero, Bool.false_eq_true, if_false, if_true, Bool.not_true, Bool.not_false, reduceIte]
  refine ⟨shaped_int _, shaped_int _, ?_⟩
  rw [eqv_int]
  cases l with
  | zero =>
    simp only [Int.natCast_zero, BEq.rfl, AB.aSeq, AB.aAsg, AB.aIfS, AB.aDrop, AB.aRet, AB.aRetN, AB.aRetV, AB.aBrk, AB.aCt, AB.aFrz, AB.aApp, AB.aAug, AB.aRaise, AB.aPar, AB.aPar3, AB.aAsgT, AB.aNext, AB.aVar, AB.aC, AB.frz, AB.frzR, AB.toR, AB.aOp2, AB.aUn, AB.aNil, AB.aCons, AB.aCB, AB.aTB, AB.aTru, AB.aNotT, AB.aAndT, AB.aOrT, AB.aAndV, AB.aOrV, AB.aNotV, AB.aIf, AB.aChain, AB.aNoPart, AB.aPart, AB.aSl, AB.aTup, AB.aLst, AB.aCall, AB.aCallR, AB.aIsi, AB.aLc, AB.aFor, AB.aWhile, AB.aiR1, AB.aiR2, AB.aiR3, AB.aiU, AB.aiU.on1', AB.aiE, AB.agName, AB.agNil, AB.agCons, AB.agTup, AB.aTold, AB.aDrw, AB.aListR1, AB.aListR2, AB.aYes, AB.on1, AB.on2, AB.look, AB.lookAll, AB.datAll, AB.startS, AB.startR, AB.endA, AB.endR, AB.itemsD, AB.noOwn, AB.wipeS, AB.fAdd, AB.fSub, AB.fMul, AB.fDiv, AB.fMod, AB.fPow, AB.fShl, AB.fShr, AB.fAnd1, AB.fEq, AB.fNe, AB.fCmp, AB.fIs, AB.fIsNot, AB.fNeg, AB.fIx, AB.fSl, AB.fAbs, AB.fInt, AB.fMax2, AB.fMin2, AB.fLen, AB.fTupleOf, AB.fListOf, AB.fSum, AB.fLstRev, AB.isNoneD, AB.truD, AB.truOk, AB.isD_int_non, AB.isD_int_bl, AB.isD_int_int, AB.isD_int_str, AB.isD_int_lst, AB.isD_int_tup, AB.isD_bool_non, AB.isD_bool_bl, AB.isD_bool_int, AB.isD_bool_str, AB.isD_bool_lst, AB.isD_bool_tup, AB.isD_list_non, AB.isD_list_bl, AB.isD_list_int, AB.isD_list_str, AB.isD_list_lst, AB.isD_list_tup, AB.isD_tuple_non, AB.isD_tuple_bl, AB.isD_tuple_int, AB.isD_tuple_str, AB.isD_tuple_lst, AB.isD_tuple_tup, AB.isD_str_non, AB.isD_str_bl, AB.isD_str_int, AB.isD_str_str, AB.isD_str_lst, AB.isD_str_tup, List.map_cons, List.map_nil, List.length_cons, List.length_nil, List.replicate_succ, List.replicate_zero, List.cons_append, List.nil_append, List.append_nil, List.set_cons_zero, List.set_cons_succ, List.set_nil, List.getElem?_cons_zero, List.getElem?_cons_succ, List.getElem?_nil, Nat.sub_self, Nat.reduceAdd, Nat.reduceSub, Nat.zero_add, Nat.add_zero, Bool.false_eq_true, if_false, if_true, Bool.not_true, Bool.not_false, reduceIte]
    refine ⟨shaped_int _, shaped_int _, ?_⟩
    rw [eqv_int]
    by_cases h : o = 0
    · subst h
      exact ⟨by decide, by decide, hp⟩
    · rw [if_neg (by simpa using h)]
      have e : rows 0 o = [] := by
        show (if o = 0 then _ else _) = _
        rw [if_neg h]
      rw [e] at hp
      exact ⟨by decide, hp⟩
  | succ l =>
    cases n with
    | zero => omega
    | succ n =>
    rw [if_neg (by simp; omega)]
    simp only [a__law_rows_r3, AB.aSeq, AB.aAsg, AB.aIfS, AB.aDrop, AB.aRet, AB.aRetN, AB.aRetV, AB.aBrk, AB.aCt, AB.aFrz, AB.aApp, AB.aAug, AB.aRaise, AB.aPar, AB.aPar3, AB.aAsgT, AB.aNext, AB.aVar, AB.aC, AB.frz, AB.frzR, AB.toR, AB.aOp2, AB.aUn, AB.aNil, AB.aCons, AB.aCB, AB.aTB, AB.aTru, AB.aNotT, AB.aAndT, AB.aOrT, AB.aAndV, AB.aOrV, AB.aNotV, AB.aIf, AB.aChain, AB.aNoPart, AB.aPart, AB.aSl, AB.aTup, AB.aLst, AB.aCall, AB.aCallR, AB.aIsi, AB.aLc, AB.aFor, AB.aWhile, AB.aiR1, AB.aiR2, AB.aiR3, AB.aiU, AB.aiU.on1', AB.aiE, AB.agName, AB.agNil, AB.agCons, AB.agTup, AB.aTold, AB.aDrw, AB.aListR1, AB.aListR2, AB.aYes, AB.on1, AB.on2, AB.look, AB.lookAll, AB.datAll, AB.startS, AB.startR, AB.endA, AB.endR, AB.itemsD, AB.noOwn, AB.wipeS, AB.fAdd, AB.fSub, AB.fMul, AB.fDiv, AB.fMod, AB.fPow, AB.fShl, AB.fShr, AB.fAnd1, AB.fEq, AB.fNe, AB.fCmp, AB.fIs, AB.fIsNot, AB.fNeg, AB.fIx, AB.fSl, AB.fAbs, AB.fInt, AB.fMax2, AB.fMin2, AB.fLen, AB.fTupleOf, AB.fListOf, AB.fSum, AB.fLstRev, AB.isNoneD, AB.truD, AB.truOk, AB.isD_int_non, AB.isD_int_bl, AB.isD_int_int, AB.isD_int_str, AB.isD_int_lst, AB.isD_int_tup, AB.isD_bool_non, AB.isD_bool_bl, AB.isD_bool_int, AB.isD_bool_str, AB.isD_bool_lst, AB.isD_bool_tup, AB.isD_list_non, AB.isD_list_bl, AB.isD_list_int, AB.isD_list_str, AB.isD_list_lst, AB.isD_list_tup, AB.isD_tuple_non, AB.isD_tuple_bl, AB.isD_tuple_int, AB.isD_tuple_str, AB.isD_tuple_lst, AB.isD_tuple_tup, AB.isD_str_non, AB.isD_str_bl, AB.isD_str_int, AB.isD_str_str, AB.isD_str_lst, AB.isD_str_tup, List.map_cons, List.map_nil, List.length_cons, List.length_nil, List.replicate_succ, List.replicate_zero, List.cons_append, List.nil_append, List.append_nil, List.set_cons_zero, List.set_cons_succ, List.set_nil, List.getElem?_cons_zero, List.getElem?_cons_succ, List.getElem?_nil, Nat.sub_self, Nat.reduceAdd, Nat.reduceSub, Nat.zero_add, Nat.add_zero, Bool.false_eq_true, if_false, if_true, Bool.not_true, Bool.not_false, reduceIte]
    have e1 : (((l + 1 : Nat) : Int) - 1) = (l : Int) := by omega
    rw [e1]
    have hl8 : l ≤ 8 := by omega
    have s1 := rows_small (l := l) (o := o) hl8
    have s2 := rows_small (l := l) (o := o - 1) hl8
    refine ⟨rfl, l, o, rfl, by omega, by rw [List.length_map]; omega, fun k acc => acc = ((rows l o).take k).map fun r => rowD (false :: r), rfl, ?_, ?_⟩
    · rintro k d acc hd rfl
      rw [List.getElem?_map] at hd
      obtain ⟨r, hr, rfl⟩ := Option.map_eq_some_iff.mp hd
      obtain ⟨hk, rfl⟩ := List.getElem?_eq_some_iff.mp hr
      have hz := rows_each l o _ (List.getElem_mem hk)
      simp only [a__law_rows_1, rowD, AB.aSeq, AB.aAsg, AB.aIfS, AB.aDrop, AB.aRet, AB.aRetN, AB.aRetV, AB.aBrk, AB.aCt, AB.aFrz, AB.aApp, AB.aAug, AB.aRaise, AB.aPar, AB.aPar3, AB.aAsgT, AB.aNext, AB.aVar, AB.aC, AB.frz, AB.frzR, AB.toR, AB.aOp2, AB.aUn, AB.aNil, AB.aCons, AB.aCB, AB.aTB, AB.aTru, AB.aNotT, AB.aAndT, AB.aOrT, AB.aAndV, AB.aOrV, AB.aNotV, AB.aIf, AB.aChain, AB.aNoPart, AB.aPart, AB.aSl, AB.aTup, AB.aLst, AB.aCall, AB.aCallR, AB.aIsi, AB.aLc, AB.aFor, AB.aWhile, AB.aiR1, AB.aiR2, AB.aiR3, AB.aiU, AB.aiU.on1', AB.aiE, AB.agName, AB.agNil, AB.agCons, AB.agTup, AB.aTold, AB.aDrw, AB.aListR1, AB.aListR2, AB.aYes, AB.on1, AB.on2, AB.look, AB.lookAll, AB.datAll, AB.startS, AB.startR, AB.endA, AB.endR, AB.itemsD, AB.noOwn, AB.wipeS, AB.fAdd, AB.fSub, AB.fMul, AB.fDiv, AB.fMod, AB.fPow, AB.fShl, AB.fShr, AB.fAnd1, AB.fEq, AB.fNe, AB.fCmp, AB.fIs, AB.fIsNot, AB.fNeg, AB.fIx, AB.fSl, AB.fAbs, AB.fInt, AB.fMax2, AB.fMin2, AB.fLen, AB.fTupleOf, AB.fListOf, AB.fSum, AB.fLstRev, AB.isNoneD, AB.truD, AB.truOk, AB.isD_int_non, AB.isD_int_bl, AB.isD_int_int, AB.isD_int_str, AB.isD_int_lst, AB.isD_int_tup, AB.isD_bool_non, AB.isD_bool_bl, AB.isD_bool_int, AB.isD_bool_str, AB.isD_bool_lst, AB.isD_bool_tup, AB.isD_list_non, AB.isD_list_bl, AB.isD_list_int, AB.isD_list_str, AB.isD_list_lst, AB.isD_list_tup, AB.isD_tuple_non, AB.isD_tuple_bl, AB.isD_tuple_int, AB.isD_tuple_str, AB.isD_tuple_lst, AB.isD_tuple_tup, AB.isD_str_non, AB.isD_str_bl, AB.isD_str_int, AB.isD_str_str, AB.isD_str_lst, AB.isD_str_tup, List.map_cons, List.map_nil, List.length_cons, List.length_nil, List.replicate_succ, List.replicate_zero, List.cons_append, List.nil_append, List.append_nil, List.set_cons_zero, List.set_cons_succ, List.set_nil, List.getElem?_cons_zero, List.getElem?_cons_succ, List.getElem?_nil, Nat.sub_self, Nat.reduceAdd, Nat.reduceSub, Nat.zero_add, Nat.add_zero, Bool.false_eq_true, if_false, if_true, Bool.not_true, Bool.not_false, reduceIte]
      refine ⟨by decide, by rw [List.length_map, hz]; omega, ?_⟩
      rw [List.take_succ, List.getElem?_eq_getElem hk, List.map_append]
      rfl
    · rintro acc rfl
      rw [show (rows l o).take ((rows l o).map rowD).length = rows l o from List.take_of_length_le (by rw [List.length_map]; exact Nat.le_refl _)]
      refine ⟨rfl, l, o - 1, rfl, by omega, by rw [List.length_map]; omega, fun k acc => acc = ((rows l (o - 1)).take k).map fun r => rowD (true :: r), rfl, ?_, ?_⟩
      · rintro k d acc hd rfl
        rw [List.getElem?_map] at hd
        obtain ⟨r, hr, rfl⟩ := Option.map_eq_some_iff.mp hd
        obtain ⟨hk, rfl⟩ := List.getElem?_eq_some_iff.mp hr
        have hz := rows_each l (o - 1) _ (List.getElem_mem hk)
        simp only [a__law_rows_2, rowD, AB.aSeq, AB.aAsg, AB.aIfS, AB.aDrop, AB.aRet, AB.aRetN, AB.aRetV, AB.aBrk, AB.aCt, AB.aFrz, AB.aApp, AB.aAug, AB.aRaise, AB.aPar, AB.aPar3, AB.aAsgT, AB.aNext, AB.aVar, AB.aC, AB.frz, AB.frzR, AB.toR, AB.aOp2, AB.aUn, AB.aNil, AB.aCons, AB.aCB, AB.aTB, AB.aTru, AB.aNotT, AB.aAndT, AB.aOrT, AB.aAndV, AB.aOrV, AB.aNotV, AB.aIf, AB.aChain, AB.aNoPart, AB.aPart, AB.aSl, AB.aTup, AB.aLst, AB.aCall, AB.aCallR, AB.aIsi, AB.aLc, AB.aFor, AB.aWhile, AB.aiR1, AB.aiR2, AB.aiR3, AB.aiU, AB.aiU.on1', AB.aiE, AB.agName, AB.agNil, AB.agCons, AB.agTup, AB.aTold, AB.aDrw, AB.aListR1, AB.aListR2, AB.aYes, AB.on1, AB.on2, AB.look, AB.lookAll, AB.datAll, AB.startS, AB.startR, AB.endA, AB.endR, AB.itemsD, AB.noOwn, AB.wipeS, AB.fAdd, AB.fSub, AB.fMul, AB.fDiv, AB.fMod, AB.fPow, AB.fShl, AB.fShr, AB.fAnd1, AB.fEq, AB.fNe, AB.fCmp, AB.fIs, AB.fIsNot, AB.fNeg, AB.fIx, AB.fSl, AB.fAbs, AB.fInt, AB.fMax2, AB.fMin2, AB.fLen, AB.fTupleOf, AB.fListOf, AB.fSum, AB.fLstRev, AB.isNoneD, AB.truD, AB.truOk, AB.isD_int_non, AB.isD_int_bl, AB.isD_int_int, AB.isD_int_str, AB.isD_int_lst, AB.isD_int_tup, AB.isD_bool_non, AB.isD_bool_bl, AB.isD_bool_int, AB.isD_bool_str, AB.isD_bool_lst, AB.isD_bool_tup, AB.isD_list_non, AB.isD_list_bl, AB.isD_list_int, AB.isD_list_str, AB.isD_list_lst, AB.isD_list_tup, AB.isD_tuple_non, AB.isD_tuple_bl, AB.isD_tuple_int, AB.isD_tuple_str, AB.isD_tuple_lst, AB.isD_tuple_tup, AB.isD_str_non, AB.isD_str_bl, AB.isD_str_int, AB.isD_str_str, AB.isD_str_lst, AB.isD_str_tup, List.map_cons, List.map_nil, List.length_cons, List.length_nil, List.replicate_succ, List.replicate_zero, List.cons_append, List.nil_append, List.append_nil, List.set_cons_zero, List.set_cons_succ, List.set_nil, List.getElem?_cons_zero, List.getElem?_cons_succ, List.getElem?_nil, Nat.sub_self, Nat.reduceAdd, Nat.reduceSub, Nat.zero_add, Nat.add_zero, Bool.false_eq_true, if_false, if_true, Bool.not_true, Bool.not_false, reduceIte]
        refine ⟨by decide, by rw [List.length_map, hz]; omega, ?_⟩
        rw [List.take_succ, List.getElem?_eq_getElem hk, List.map_append]
        rfl
      · rintro acc rfl
        rw [show (rows l (o - 1)).take ((rows l (o - 1)).map rowD).length = rows l (o - 1) from List.take_of_length_le (by rw [List.length_map]; exact Nat.le_refl _)]
        refine ⟨by rw [List.length_map, List.length_map]; omega, ?_⟩
        rw [rows_succ, List.map_append, List.map_map, List.map_map] at hp
        exact hp
/-! ranks are places -/
theorem unrank_ok : ∀ (l : Nat) (o : Int) (r : Nat), r < chI l o → (unrank l o r).length = l ∧ ((cnt (unrank l o r) : Nat) : Int) = o ∧ rank (unrank l o r) = r
  | 0, o, r, h => by
    rw [chI_zero] at h
    split at h
    · rename_i e
      subst e
      exact ⟨rfl, rfl, by show 0 = r; omega⟩
    · omega
  | l + 1, o, r, h => by
    by_cases hr : r < chI l o
    · obtain ⟨h1, h2, h3⟩ := unrank_ok l o r hr
      rw [unrank_lt hr]
      exact ⟨congrArg (· + 1) h1, h2, h3⟩
    · rw [chI_succ] at h
      obtain ⟨h1, h2, h3⟩ := unrank_ok l (o - 1) (r - chI l o) (by omega)
      rw [unrank_ge hr]
      refine ⟨congrArg (· + 1) h1, ?_, ?_⟩
      · show ((cnt (unrank l (o - 1) (r - chI l o)) + 1 : Nat) : Int) = o
        omega
      · show ch (unrank l (o - 1) (r - chI l o)).length (cnt (unrank l (o - 1) (r - chI l o)) + 1) + rank (unrank l (o - 1) (r - chI l o)) = r
        rw [h1, h3, ← chI_nat, show ((cnt (unrank l (o - 1) (r - chI l o)) + 1 : Nat) : Int) = o by omega]
        omega
theorem rank_ok : ∀ bs : List Bool, rank bs < chI bs.length (cnt bs : Nat) ∧ unrank bs.length (cnt bs : Nat) (rank bs) = bs
  | [] => ⟨by decide, rfl⟩
  | false :: r => by
    obtain ⟨h1, h2⟩ := rank_ok r
    show rank r < chI (r.length + 1) (cnt r : Nat) ∧ unrank (r.length + 1) (cnt r : Nat) (rank r) = _
    rw [unrank_lt h1, h2, chI_succ]
    exact ⟨by omega, rfl⟩
  | true :: r => by
    obtain ⟨h1, h2⟩ := rank_ok r
    show ch r.length (cnt r + 1) + rank r < chI (r.length + 1) ((cnt r + 1 : Nat) : Int) ∧ unrank (r.length + 1) ((cnt r + 1 : Nat) : Int) (ch r.length (cnt r + 1) + rank r) = _
    have e : (((cnt r + 1 : Nat) : Int) - 1) = (cnt r : Nat) := by omega
    rw [unrank_ge (by rw [chI_nat]; omega), chI_succ, e, chI_nat (k := cnt r + 1), Nat.add_sub_cancel_left, h2]
    exact ⟨by omega, rfl⟩
theorem cnt_le : ∀ bs : List Bool, cnt bs ≤ bs.length
  | [] => Nat.le_refl _
  | true :: r => Nat.succ_le_succ (cnt_le r)
  | false :: r => Nat.le_succ_of_le (cnt_le r)
theorem pow_bf (m : Nat) : m ≤ 2 ^ bf m := by
  have z := (bf_iff (m := m) (f := bf m)).mp
  omega
/-! depths -/
theorem depAll_nil (n : Nat) : depAll [] (n + 1) = true := by simp [depAll]
theorem depAll_cons (x : PyData) (r : List PyData) (n : Nat) : depAll (x :: r) (n + 1) = (depD x n && depAll r (n + 1)) := by simp [depAll]
theorem dep_bits (n : Nat) : ∀ bs : List Bool, depAll (bs.map bD) (n + 1) = true
  | [] => depAll_nil n
  | b :: r => by
    rw [List.map_cons, depAll_cons, dep_bits n r, Bool.and_true]
    show depD (.int _) n = true
    simp [depD, shaped_int]
theorem dep_row {bs : List Bool} (h : bs.length ≤ 100000) (n : Nat) : depD (rowD bs) (n + 1) = true := by
  unfold rowD
  rw [depD, dep_bits n bs, List.length_map, decide_eq_true h]
  rfl
theorem dep_int (i : Int) (n : Nat) : depD (.int i) n = true := by
  cases n <;> simp [depD, shaped_int]
theorem dep_cells (n k : Nat) : ∀ w : Nat, depAll (cells k w) (n + 1) = true
  | 0 => depAll_nil n
  | w + 1 => by
    show depAll (_ :: cells k w) (n + 1) = true
    rw [depAll_cons, dep_cells n k w, dep_int]
    rfl
theorem dep_cellsD {n k w : Nat} (h : w ≤ 1000) : depD (.tuple (cells k w)) (n + 1) = true := by
  rw [depD, dep_cells, cells_len, decide_eq_true (by omega)]
  rfl
theorem dep2 {a b : PyData} (ha : depD a 3 = true) (hb : depD b 3 = true) : depD (.list [a, b]) 4 = true := by
  rw [depD, depAll_cons, depAll_cons, depAll_nil, ha, hb]
  rfl
theorem dep3 {a b c : PyData} (ha : depD a 3 = true) (hb : depD b 3 = true) (hc : depD c 3 = true) : depD (.list [a, b, c]) 4 = true := by
  rw [depD, depAll_cons, depAll_cons, depAll_cons, depAll_nil, ha, hb, hc]
  rfl
theorem noOwn_val (d : PyData) : noOwnB (.val d) = true := rfl
/-! ### the law -/
theorem law_1 (A : AD) (l k : Nat) (o : Int) (hl : l ≤ 8) (hk : k < chI l o) (s0 s1 s6 s7 s8 s9 s10 s11 s12 s13 : SV)
    (hA : A.nx [s0, s1, .val (.int l), .val (.int o), .val (.list ((rows l o).map rowD)), .val (.int k), s6, s7, s8, s9, s10, s11, s12, s13]) :
    a_law_1 A [s0, s1, .val (.int l), .val (.int o), .val (.list ((rows l o).map rowD)), .val (.int k), s6, s7, s8, s9, s10, s11, s12, s13] := by
  have g : atI ((rows l o).map rowD) (k : Int) = some (rowD (unrank l o k)) := atI_nat (j := k) (by rw [List.getElem?_map, rows_get l o k hk]; rfl)
  obtain ⟨h1, h2, h3⟩ := unrank_ok l o k hk
  simp only [a_law_1, AB.aSeq, AB.aAsg, AB.aIfS, AB.aDrop, AB.aRet, AB.aRetN, AB.aRetV, AB.aBrk, AB.aCt, AB.aFrz, AB.aApp, AB.aAug, AB.aRaise, AB.aPar, AB.aPar3, AB.aAsgT, AB.aNext, AB.aVar, AB.aC, AB.frz, AB.frzR, AB.toR, AB.aOp2, AB.aUn, AB.aNil, AB.aCons, AB.aCB, AB.aTB, AB.aTru, AB.aNotT, AB.aAndT, AB.aOrT, AB.aAndV, AB.aOrV, AB.aNotV, AB.aIf, AB.aChain, AB.aNoPart, AB.aPart, AB.aSl, AB.aTup, AB.aLst, AB.aCall, AB.aCallR, AB.aIsi, AB.aLc, AB.aFor, AB.aWhile, AB.aiR1, AB.aiR2, AB.aiR3, AB.aiU, AB.aiU.on1', AB.aiE, AB.agName, AB.agNil, AB.agCons, AB.agTup, AB.aTold, AB.aDrw, AB.aListR1, AB.aListR2, AB.aYes, AB.on1, AB.on2, AB.look, AB.lookAll, AB.datAll, AB.startS, AB.startR, AB.endA, AB.endR, AB.itemsD, AB.noOwn, AB.wipeS, AB.fAdd, AB.fSub, AB.fMul, AB.fDiv, AB.fMod, AB.fPow, AB.fShl, AB.fShr, AB.fAnd1, AB.fEq, AB.fNe, AB.fCmp, AB.fIs, AB.fIsNot, AB.fNeg, AB.fIx, AB.fSl, AB.fAbs, AB.fInt, AB.fMax2, AB.fMin2, AB.fLen, AB.fTupleOf, AB.fListOf, AB.fSum, AB.fLstRev, AB.isNoneD, AB.truD, AB.truOk, AB.isD_int_non, AB.isD_int_bl, AB.isD_int_int, AB.isD_int_str, AB.isD_int_lst, AB.isD_int_tup, AB.isD_bool_non, AB.isD_bool_bl, AB.isD_bool_int, AB.isD_bool_str, AB.isD_bool_lst, AB.isD_bool_tup, AB.isD_list_non, AB.isD_list_bl, AB.isD_list_int, AB.isD_list_str, AB.isD_list_lst, AB.isD_list_tup, AB.isD_tuple_non, AB.isD_tuple_bl, AB.isD_tuple_int, AB.isD_tuple_str, AB.isD_tuple_lst, AB.isD_tuple_tup, AB.isD_str_non, AB.isD_str_bl, AB.isD_str_int, AB.isD_str_str, AB.isD_str_lst, AB.isD_str_tup, List.map_cons, List.map_nil, List.length_cons, List.length_nil, List.replicate_succ, List.replicate_zero, List.cons_append, List.nil_append, List.append_nil, List.set_cons_zero, List.set_cons_succ, List.set_nil, List.getElem?_cons_zero, List.getElem?_cons_succ, List.getElem?_nil, Nat.sub_self, Nat.reduceAdd, Nat.reduceSub, Nat.zero_add, Nat.add_zero, Bool.false_eq_true, if_false, if_true, Bool.not_true, Bool.not_false, reduceIte]
  refine ⟨_, g, unrank l o k, rfl, by omega, .inr (.inr (.inl ⟨l, o, k, rfl, by omega, hk, by decide, _, g, by decide, _, by rw [h3], dep2 (dep_int _ _) (dep_row (by omega) 2), ?_⟩))⟩
  exact hA
theorem law_r3 (A : AD) (l : Nat) (o : Int) (hl : l ≤ 8) (s0 s1 s5 s6 s7 s8 s9 s10 s11 s12 : SV)
    (hA : A.nx [s0, s1, .val (.int l), .val (.int o), .val (.list ((rows l o).map rowD)), s5, s6, s7, s8, s9, s10, s11, s12, .no]) :
    a_law_r3 A [s0, s1, .val (.int l), .val (.int o), .val (.list ((rows l o).map rowD)), s5, s6, s7, s8, s9, s10, s11, s12, .no] := by
  simp only [a_law_r3, AB.aSeq, AB.aAsg, AB.aIfS, AB.aDrop, AB.aRet, AB.aRetN, AB.aRetV, AB.aBrk, AB.aCt, AB.aFrz, AB.aApp, AB.aAug, AB.aRaise, AB.aPar, AB.aPar3, AB.aAsgT, AB.aNext, AB.aVar, AB.aC, AB.frz, AB.frzR, AB.toR, AB.aOp2, AB.aUn, AB.aNil, AB.aCons, AB.aCB, AB.aTB, AB.aTru, AB.aNotT, AB.aAndT, AB.aOrT, AB.aAndV, AB.aOrV, AB.aNotV, AB.aIf, AB.aChain, AB.aNoPart, AB.aPart, AB.aSl, AB.aTup, AB.aLst, AB.aCall, AB.aCallR, AB.aIsi, AB.aLc, AB.aFor, AB.aWhile, AB.aiR1, AB.aiR2, AB.aiR3, AB.aiU, AB.aiU.on1', AB.aiE, AB.agName, AB.agNil, AB.agCons, AB.agTup, AB.aTold, AB.aDrw, AB.aListR1, AB.aListR2, AB.aYes, AB.on1, AB.on2, AB.look, AB.lookAll, AB.datAll, AB.startS, AB.startR, AB.endA, AB.endR, AB.itemsD, AB.noOwn, AB.wipeS, AB.fAdd, AB.fSub, AB.fMul, AB.fDiv, AB.fMod, AB.fPow, AB.fShl, AB.fShr, AB.fAnd1, AB.fEq, AB.fNe, AB.fCmp, AB.fIs, AB.fIsNot, AB.fNeg, AB.fIx, AB.fSl, AB.fAbs, AB.fInt, AB.fMax2, AB.fMin2, AB.fLen, AB.fTupleOf, AB.fListOf, AB.fSum, AB.fLstRev, AB.isNoneD, AB.truD, AB.truOk, AB.isD_int_non, AB.isD_int_bl, AB.isD_int_int, AB.isD_int_str, AB.isD_int_lst, AB.isD_int_tup, AB.isD_bool_non, AB.isD_bool_bl, AB.isD_bool_int, AB.isD_bool_str, AB.isD_bool_lst, AB.isD_bool_tup, AB.isD_list_non, AB.isD_list_bl, AB.isD_list_int, AB.isD_list_str, AB.isD_list_lst, AB.isD_list_tup, AB.isD_tuple_non, AB.isD_tuple_bl, AB.isD_tuple_int, AB.isD_tuple_str, AB.isD_tuple_lst, AB.isD_tuple_tup, AB.isD_str_non, AB.isD_str_bl, AB.isD_str_int, AB.isD_str_str, AB.isD_str_lst, AB.isD_str_tup, List.map_cons, List.map_nil, List.length_cons, List.length_nil, List.replicate_succ, List.replicate_zero, List.cons_append, List.nil_append, List.append_nil, List.set_cons_zero, List.set_cons_succ, List.set_nil, List.getElem?_cons_zero, List.getElem?_cons_succ, List.getElem?_nil, Nat.sub_self, Nat.reduceAdd, Nat.reduceSub, Nat.zero_add, Nat.add_zero, Bool.false_eq_true, if_false, if_true, Bool.not_true, Bool.not_false, reduceIte]
  rw [List.length_map, rows_len]
  refine ⟨rfl, by decide, by decide, fun k acc => acc = [], rfl, ?_, ?_⟩
  · rintro k d acc hd rfl
    have hf : flatD d = true ∧ isNum d 0 ((chI l o : Int) - 1) = false := by
      match k, hd with
      | 0, hd =>
        cases hd
        exact ⟨rfl, rfl⟩
      | 1, hd =>
        cases hd
        refine ⟨rfl, ?_⟩
        rw [isNum_int, decide_eq_false (p := ((chI l o : Nat) : Int) ≤ (chI l o : Int) - 1) (by omega), Bool.and_false]
      | 2, hd =>
        cases hd
        exact ⟨rfl, rfl⟩
      | 3, hd =>
        cases hd
        exact ⟨rfl, rfl⟩
      | 4, hd =>
        cases hd
        exact ⟨rfl, rfl⟩
    simp only [a_law_2, AB.aSeq, AB.aAsg, AB.aIfS, AB.aDrop, AB.aRet, AB.aRetN, AB.aRetV, AB.aBrk, AB.aCt, AB.aFrz, AB.aApp, AB.aAug, AB.aRaise, AB.aPar, AB.aPar3, AB.aAsgT, AB.aNext, AB.aVar, AB.aC, AB.frz, AB.frzR, AB.toR, AB.aOp2, AB.aUn, AB.aNil, AB.aCons, AB.aCB, AB.aTB, AB.aTru, AB.aNotT, AB.aAndT, AB.aOrT, AB.aAndV, AB.aOrV, AB.aNotV, AB.aIf, AB.aChain, AB.aNoPart, AB.aPart, AB.aSl, AB.aTup, AB.aLst, AB.aCall, AB.aCallR, AB.aIsi, AB.aLc, AB.aFor, AB.aWhile, AB.aiR1, AB.aiR2, AB.aiR3, AB.aiU, AB.aiU.on1', AB.aiE, AB.agName, AB.agNil, AB.agCons, AB.agTup, AB.aTold, AB.aDrw, AB.aListR1, AB.aListR2, AB.aYes, AB.on1, AB.on2, AB.look, AB.lookAll, AB.datAll, AB.startS, AB.startR, AB.endA, AB.endR, AB.itemsD, AB.noOwn, AB.wipeS, AB.fAdd, AB.fSub, AB.fMul, AB.fDiv, AB.fMod, AB.fPow, AB.fShl, AB.fShr, AB.fAnd1, AB.fEq, AB.fNe, AB.fCmp, AB.fIs, AB.fIsNot, AB.fNeg, AB.fIx, AB.fSl, AB.fAbs, AB.fInt, AB.fMax2, AB.fMin2, AB.fLen, AB.fTupleOf, AB.fListOf, AB.fSum, AB.fLstRev, AB.isNoneD, AB.truD, AB.truOk, AB.isD_int_non, AB.isD_int_bl, AB.isD_int_int, AB.isD_int_str, AB.isD_int_lst, AB.isD_int_tup, AB.isD_bool_non, AB.isD_bool_bl, AB.isD_bool_int, AB.isD_bool_str, AB.isD_bool_lst, AB.isD_bool_tup, AB.isD_list_non, AB.isD_list_bl, AB.isD_list_int, AB.isD_list_str, AB.isD_list_lst, AB.isD_list_tup, AB.isD_tuple_non, AB.isD_tuple_bl, AB.isD_tuple_int, AB.isD_tuple_str, AB.isD_tuple_lst, AB.isD_tuple_tup, AB.isD_str_non, AB.isD_str_bl, AB.isD_str_int, AB.isD_str_str, AB.isD_str_lst, AB.isD_str_tup, List.map_cons, List.map_nil, List.length_cons, List.length_nil, List.replicate_succ, List.replicate_zero, List.cons_append, List.nil_append, List.append_nil, List.set_cons_zero, List.set_cons_succ, List.set_nil, List.getElem?_cons_zero, List.getElem?_cons_succ, List.getElem?_nil, Nat.sub_self, Nat.reduceAdd, Nat.reduceSub, Nat.zero_add, Nat.add_zero, Bool.false_eq_true, if_false, if_true, Bool.not_true, Bool.not_false, reduceIte]
    refine .inr (.inr (.inr ⟨l, o, d, rfl, by omega, hf.1, hf.2, by decide +kernel, by decide +kernel, ?_⟩))
    rw [eqv_ss]
    exact trivial
  · rintro acc rfl
    refine ⟨by decide, rfl, rfl, ?_⟩
    rw [eqv_ll]
    exact hA
end K15
namespace K15
open PySem PySem.Spec PyProof.Rows L2 AB
theorem law_5 (A : AD) (l : Nat) (o : Int) (hl : l ≤ 8) (s0 s1 s4 s5 s6 s7 s8 s9 s10 s11 s12 : SV) (h5 : noOwnB s5 = true)
    (hA : ∀ s4 s5, noOwnB s5 = true → A.nx [s0, s1, .val (.int l), .val (.int o), s4, s5, s6, s7, s8, s9, s10, s11, s12, .no]) :
    a_law_5 A [s0, s1, .val (.int l), .val (.int o), s4, s5, s6, s7, s8, s9, s10, s11, s12, .no] := by
  simp only [a_law_5, AB.aSeq, AB.aDrop, AB.aRet, AB.aRetN, AB.aRetV, AB.aBrk, AB.aCt, AB.aApp, AB.aAug, AB.aRaise, AB.aPar, AB.aPar3, AB.aAsgT, AB.aNext, AB.aC, AB.aOp2, AB.aUn, AB.aNil, AB.aCons, AB.aCB, AB.aTru, AB.aAndV, AB.aOrV, AB.aNotV, AB.aChain, AB.aNoPart, AB.aPart, AB.aSl, AB.aTup, AB.aLst, AB.aCall, AB.aCallR, AB.aIsi, AB.aLc, AB.aFor, AB.aWhile, AB.aiR1, AB.aiR2, AB.aiR3, AB.aiU, AB.aiU.on1', AB.aiE, AB.agName, AB.agNil, AB.agCons, AB.agTup, AB.aTold, AB.aDrw, AB.aListR1, AB.aListR2, AB.aYes, AB.lookAll, AB.datAll, AB.startS, AB.startR, AB.endA, AB.endR, AB.itemsD, AB.noOwn, AB.wipeS, AB.isNoneD, AB.truD, AB.truOk, Bool.not_true, Bool.not_false, AB.aVar_eq, AB.aFrz_eq, AB.varK_val, AB.varK_lst, AB.varK_drw, AB.frzSK_lst, AB.frzSK_val, AB.look_ali, AB.aliK_lst, AB.frz_eq, AB.frzR_eq, AB.toR_eq, AB.aTB_eq, AB.aAsg_eq, AB.aIfS_eq, AB.aNotT_eq, AB.aAndT_eq, AB.aOrT_eq, AB.aIf_eq, AB.frzK_dat, AB.frzK_new, AB.frzRK_dat, AB.frzRK_new, AB.frzRK_drw, AB.toRK_dat, AB.tbK_bool, AB.asgK_dat, AB.asgK_new, AB.asgK_drw, AB.iteK_true, AB.iteK_false, AB.fAdd_int, AB.fAdd_tup, AB.fAdd_lst, AB.fAdd_str, AB.fSub_int, AB.fMul_int, AB.fMul_lst, AB.fDiv_int, AB.fMod_int, AB.fPow_int, AB.fShl_int, AB.fShr_int, AB.fAnd1_int, AB.fCmp_int, AB.fNeg_int, AB.fIs_non, AB.fIsNot_non, AB.fIs_bool, AB.fIsNot_bool, AB.fIx_lst, AB.fIx_tup, AB.fIx_scr, AB.fIx_str, AB.fSl_lst, AB.fSl_tup, AB.fAbs_int, AB.fInt_int, AB.fInt_bool, AB.fMax2_int, AB.fMin2_int, AB.fLen_scr, AB.fLen_lst, AB.fLen_tup, AB.fLen_str, AB.fTupleOf_lst, AB.fTupleOf_tup, AB.fListOf_lst, AB.fListOf_tup, AB.fSum_lst, AB.fSum_tup, AB.fLstRev_lst, AB.fEq_eq, AB.fNe_eq, AB.on2_ss, AB.on1_s, AB.look_dat, AB.eqv_ii, AB.eqv_bb, AB.eqv_ss, AB.shaped_int, AB.shaped_b, AB.shaped_non, AB.isD_int_non, AB.isD_int_bl, AB.isD_int_int, AB.isD_int_str, AB.isD_int_lst, AB.isD_int_tup, AB.isD_bool_non, AB.isD_bool_bl, AB.isD_bool_int, AB.isD_bool_str, AB.isD_bool_lst, AB.isD_bool_tup, AB.isD_list_non, AB.isD_list_bl, AB.isD_list_int, AB.isD_list_str, AB.isD_list_lst, AB.isD_list_tup, AB.isD_tuple_non, AB.isD_tuple_bl, AB.isD_tuple_int, AB.isD_tuple_str, AB.isD_tuple_lst, AB.isD_tuple_tup, AB.isD_str_non, AB.isD_str_bl, AB.isD_str_int, AB.isD_str_str, AB.isD_str_lst, AB.isD_str_tup, List.map_cons, List.map_nil, List.length_cons, List.length_nil, List.replicate_succ, List.replicate_zero, List.cons_append, List.nil_append, List.append_nil, List.set_cons_zero, List.set_cons_succ, List.set_nil, List.getElem?_cons_zero, List.getElem?_cons_succ, List.getElem?_nil, Nat.sub_self, Nat.reduceAdd, Nat.reduceSub, Nat.zero_add, Nat.add_zero, Bool.false_eq_true, if_false, if_true, Bool.not_true, Bool.not_false, reduceIte]
  refine ⟨l, o, rfl, hl, ?_⟩
  simp only [AB.aSeq, AB.aDrop, AB.aRet, AB.aRetN, AB.aRetV, AB.aBrk, AB.aCt, AB.aApp, AB.aAug, AB.aRaise, AB.aPar, AB.aPar3, AB.aAsgT, AB.aNext, AB.aC, AB.aOp2, AB.aUn, AB.aNil, AB.aCons, AB.aCB, AB.aTru, AB.aAndV, AB.aOrV, AB.aNotV, AB.aChain, AB.aNoPart, AB.aPart, AB.aSl, AB.aTup, AB.aLst, AB.aCall, AB.aCallR, AB.aIsi, AB.aLc, AB.aFor, AB.aWhile, AB.aiR1, AB.aiR2, AB.aiR3, AB.aiU, AB.aiU.on1', AB.aiE, AB.agName, AB.agNil, AB.agCons, AB.agTup, AB.aTold, AB.aDrw, AB.aListR1, AB.aListR2, AB.aYes, AB.lookAll, AB.datAll, AB.startS, AB.startR, AB.endA, AB.endR, AB.itemsD, AB.noOwn, AB.wipeS, AB.isNoneD, AB.truD, AB.truOk, Bool.not_true, Bool.not_false, AB.aVar_eq, AB.aFrz_eq, AB.varK_val, AB.varK_lst, AB.varK_drw, AB.frzSK_lst, AB.frzSK_val, AB.look_ali, AB.aliK_lst, AB.frz_eq, AB.frzR_eq, AB.toR_eq, AB.aTB_eq, AB.aAsg_eq, AB.aIfS_eq, AB.aNotT_eq, AB.aAndT_eq, AB.aOrT_eq, AB.aIf_eq, AB.frzK_dat, AB.frzK_new, AB.frzRK_dat, AB.frzRK_new, AB.frzRK_drw, AB.toRK_dat, AB.tbK_bool, AB.asgK_dat, AB.asgK_new, AB.asgK_drw, AB.iteK_true, AB.iteK_false, AB.fAdd_int, AB.fAdd_tup, AB.fAdd_lst, AB.fAdd_str, AB.fSub_int, AB.fMul_int, AB.fMul_lst, AB.fDiv_int, AB.fMod_int, AB.fPow_int, AB.fShl_int, AB.fShr_int, AB.fAnd1_int, AB.fCmp_int, AB.fNeg_int, AB.fIs_non, AB.fIsNot_non, AB.fIs_bool, AB.fIsNot_bool, AB.fIx_lst, AB.fIx_tup, AB.fIx_scr, AB.fIx_str, AB.fSl_lst, AB.fSl_tup, AB.fAbs_int, AB.fInt_int, AB.fInt_bool, AB.fMax2_int, AB.fMin2_int, AB.fLen_scr, AB.fLen_lst, AB.fLen_tup, AB.fLen_str, AB.fTupleOf_lst, AB.fTupleOf_tup, AB.fListOf_lst, AB.fListOf_tup, AB.fSum_lst, AB.fSum_tup, AB.fLstRev_lst, AB.fEq_eq, AB.fNe_eq, AB.on2_ss, AB.on1_s, AB.look_dat, AB.eqv_ii, AB.eqv_bb, AB.eqv_ss, AB.shaped_int, AB.shaped_b, AB.shaped_non, AB.isD_int_non, AB.isD_int_bl, AB.isD_int_int, AB.isD_int_str, AB.isD_int_lst, AB.isD_int_tup, AB.isD_bool_non, AB.isD_bool_bl, AB.isD_bool_int, AB.isD_bool_str, AB.isD_bool_lst, AB.isD_bool_tup, AB.isD_list_non, AB.isD_list_bl, AB.isD_list_int, AB.isD_list_str, AB.isD_list_lst, AB.isD_list_tup, AB.isD_tuple_non, AB.isD_tuple_bl, AB.isD_tuple_int, AB.isD_tuple_str, AB.isD_tuple_lst, AB.isD_tuple_tup, AB.isD_str_non, AB.isD_str_bl, AB.isD_str_int, AB.isD_str_str, AB.isD_str_lst, AB.isD_str_tup, List.map_cons, List.map_nil, List.length_cons, List.length_nil, List.replicate_succ, List.replicate_zero, List.cons_append, List.nil_append, List.append_nil, List.set_cons_zero, List.set_cons_succ, List.set_nil, List.getElem?_cons_zero, List.getElem?_cons_succ, List.getElem?_nil, Nat.sub_self, Nat.reduceAdd, Nat.reduceSub, Nat.zero_add, Nat.add_zero, Bool.false_eq_true, if_false, if_true, Bool.not_true, Bool.not_false, reduceIte]
  rw [List.length_map, rows_len]
  have hb : bf (chI l o) ≤ 110 := Nat.le_trans (bf_le (chI_le l o)) (by omega)
  refine .inl ⟨l, o, .none, rfl, by omega, ?_⟩
  simp only [AB.aSeq, AB.aDrop, AB.aRet, AB.aRetN, AB.aRetV, AB.aBrk, AB.aCt, AB.aApp, AB.aAug, AB.aRaise, AB.aPar, AB.aPar3, AB.aAsgT, AB.aNext, AB.aC, AB.aOp2, AB.aUn, AB.aNil, AB.aCons, AB.aCB, AB.aTru, AB.aAndV, AB.aOrV, AB.aNotV, AB.aChain, AB.aNoPart, AB.aPart, AB.aSl, AB.aTup, AB.aLst, AB.aCall, AB.aCallR, AB.aIsi, AB.aLc, AB.aFor, AB.aWhile, AB.aiR1, AB.aiR2, AB.aiR3, AB.aiU, AB.aiU.on1', AB.aiE, AB.agName, AB.agNil, AB.agCons, AB.agTup, AB.aTold, AB.aDrw, AB.aListR1, AB.aListR2, AB.aYes, AB.lookAll, AB.datAll, AB.startS, AB.startR, AB.endA, AB.endR, AB.itemsD, AB.noOwn, AB.wipeS, AB.isNoneD, AB.truD, AB.truOk, Bool.not_true, Bool.not_false, AB.aVar_eq, AB.aFrz_eq, AB.varK_val, AB.varK_lst, AB.varK_drw, AB.frzSK_lst, AB.frzSK_val, AB.look_ali, AB.aliK_lst, AB.frz_eq, AB.frzR_eq, AB.toR_eq, AB.aTB_eq, AB.aAsg_eq, AB.aIfS_eq, AB.aNotT_eq, AB.aAndT_eq, AB.aOrT_eq, AB.aIf_eq, AB.frzK_dat, AB.frzK_new, AB.frzRK_dat, AB.frzRK_new, AB.frzRK_drw, AB.toRK_dat, AB.tbK_bool, AB.asgK_dat, AB.asgK_new, AB.asgK_drw, AB.iteK_true, AB.iteK_false, AB.fAdd_int, AB.fAdd_tup, AB.fAdd_lst, AB.fAdd_str, AB.fSub_int, AB.fMul_int, AB.fMul_lst, AB.fDiv_int, AB.fMod_int, AB.fPow_int, AB.fShl_int, AB.fShr_int, AB.fAnd1_int, AB.fCmp_int, AB.fNeg_int, AB.fIs_non, AB.fIsNot_non, AB.fIs_bool, AB.fIsNot_bool, AB.fIx_lst, AB.fIx_tup, AB.fIx_scr, AB.fIx_str, AB.fSl_lst, AB.fSl_tup, AB.fAbs_int, AB.fInt_int, AB.fInt_bool, AB.fMax2_int, AB.fMin2_int, AB.fLen_scr, AB.fLen_lst, AB.fLen_tup, AB.fLen_str, AB.fTupleOf_lst, AB.fTupleOf_tup, AB.fListOf_lst, AB.fListOf_tup, AB.fSum_lst, AB.fSum_tup, AB.fLstRev_lst, AB.fEq_eq, AB.fNe_eq, AB.on2_ss, AB.on1_s, AB.look_dat, AB.eqv_ii, AB.eqv_bb, AB.eqv_ss, AB.shaped_int, AB.shaped_b, AB.shaped_non, AB.isD_int_non, AB.isD_int_bl, AB.isD_int_int, AB.isD_int_str, AB.isD_int_lst, AB.isD_int_tup, AB.isD_bool_non, AB.isD_bool_bl, AB.isD_bool_int, AB.isD_bool_str, AB.isD_bool_lst, AB.isD_bool_tup, AB.isD_list_non, AB.isD_list_bl, AB.isD_list_int, AB.isD_list_str, AB.isD_list_lst, AB.isD_list_tup, AB.isD_tuple_non, AB.isD_tuple_bl, AB.isD_tuple_int, AB.isD_tuple_str, AB.isD_tuple_lst, AB.isD_tuple_tup, AB.isD_str_non, AB.isD_str_bl, AB.isD_str_int, AB.isD_str_str, AB.isD_str_lst, AB.isD_str_tup, List.map_cons, List.map_nil, List.length_cons, List.length_nil, List.replicate_succ, List.replicate_zero, List.cons_append, List.nil_append, List.append_nil, List.set_cons_zero, List.set_cons_succ, List.set_nil, List.getElem?_cons_zero, List.getElem?_cons_succ, List.getElem?_nil, Nat.sub_self, Nat.reduceAdd, Nat.reduceSub, Nat.zero_add, Nat.add_zero, Bool.false_eq_true, if_false, if_true, Bool.not_true, Bool.not_false, reduceIte]
  refine ⟨l, o, rfl, by omega, ?_⟩
  simp only [AB.aSeq, AB.aDrop, AB.aRet, AB.aRetN, AB.aRetV, AB.aBrk, AB.aCt, AB.aApp, AB.aAug, AB.aRaise, AB.aPar, AB.aPar3, AB.aAsgT, AB.aNext, AB.aC, AB.aOp2, AB.aUn, AB.aNil, AB.aCons, AB.aCB, AB.aTru, AB.aAndV, AB.aOrV, AB.aNotV, AB.aChain, AB.aNoPart, AB.aPart, AB.aSl, AB.aTup, AB.aLst, AB.aCall, AB.aCallR, AB.aIsi, AB.aLc, AB.aFor, AB.aWhile, AB.aiR1, AB.aiR2, AB.aiR3, AB.aiU, AB.aiU.on1', AB.aiE, AB.agName, AB.agNil, AB.agCons, AB.agTup, AB.aTold, AB.aDrw, AB.aListR1, AB.aListR2, AB.aYes, AB.lookAll, AB.datAll, AB.startS, AB.startR, AB.endA, AB.endR, AB.itemsD, AB.noOwn, AB.wipeS, AB.isNoneD, AB.truD, AB.truOk, Bool.not_true, Bool.not_false, AB.aVar_eq, AB.aFrz_eq, AB.varK_val, AB.varK_lst, AB.varK_drw, AB.frzSK_lst, AB.frzSK_val, AB.look_ali, AB.aliK_lst, AB.frz_eq, AB.frzR_eq, AB.toR_eq, AB.aTB_eq, AB.aAsg_eq, AB.aIfS_eq, AB.aNotT_eq, AB.aAndT_eq, AB.aOrT_eq, AB.aIf_eq, AB.frzK_dat, AB.frzK_new, AB.frzRK_dat, AB.frzRK_new, AB.frzRK_drw, AB.toRK_dat, AB.tbK_bool, AB.asgK_dat, AB.asgK_new, AB.asgK_drw, AB.iteK_true, AB.iteK_false, AB.fAdd_int, AB.fAdd_tup, AB.fAdd_lst, AB.fAdd_str, AB.fSub_int, AB.fMul_int, AB.fMul_lst, AB.fDiv_int, AB.fMod_int, AB.fPow_int, AB.fShl_int, AB.fShr_int, AB.fAnd1_int, AB.fCmp_int, AB.fNeg_int, AB.fIs_non, AB.fIsNot_non, AB.fIs_bool, AB.fIsNot_bool, AB.fIx_lst, AB.fIx_tup, AB.fIx_scr, AB.fIx_str, AB.fSl_lst, AB.fSl_tup, AB.fAbs_int, AB.fInt_int, AB.fInt_bool, AB.fMax2_int, AB.fMin2_int, AB.fLen_scr, AB.fLen_lst, AB.fLen_tup, AB.fLen_str, AB.fTupleOf_lst, AB.fTupleOf_tup, AB.fListOf_lst, AB.fListOf_tup, AB.fSum_lst, AB.fSum_tup, AB.fLstRev_lst, AB.fEq_eq, AB.fNe_eq, AB.on2_ss, AB.on1_s, AB.look_dat, AB.eqv_ii, AB.eqv_bb, AB.eqv_ss, AB.shaped_int, AB.shaped_b, AB.shaped_non, AB.isD_int_non, AB.isD_int_bl, AB.isD_int_int, AB.isD_int_str, AB.isD_int_lst, AB.isD_int_tup, AB.isD_bool_non, AB.isD_bool_bl, AB.isD_bool_int, AB.isD_bool_str, AB.isD_bool_lst, AB.isD_bool_tup, AB.isD_list_non, AB.isD_list_bl, AB.isD_list_int, AB.isD_list_str, AB.isD_list_lst, AB.isD_list_tup, AB.isD_tuple_non, AB.isD_tuple_bl, AB.isD_tuple_int, AB.isD_tuple_str, AB.isD_tuple_lst, AB.isD_tuple_tup, AB.isD_str_non, AB.isD_str_bl, AB.isD_str_int, AB.isD_str_str, AB.isD_str_lst, AB.isD_str_tup, List.map_cons, List.map_nil, List.length_cons, List.length_nil, List.replicate_succ, List.replicate_zero, List.cons_append, List.nil_append, List.append_nil, List.set_cons_zero, List.set_cons_succ, List.set_nil, List.getElem?_cons_zero, List.getElem?_cons_succ, List.getElem?_nil, Nat.sub_self, Nat.reduceAdd, Nat.reduceSub, Nat.zero_add, Nat.add_zero, Bool.false_eq_true, if_false, if_true, Bool.not_true, Bool.not_false, reduceIte]
  refine ⟨by decide, chI l o, rfl, hb, ?_⟩
  simp only [AB.aSeq, AB.aDrop, AB.aRet, AB.aRetN, AB.aRetV, AB.aBrk, AB.aCt, AB.aApp, AB.aAug, AB.aRaise, AB.aPar, AB.aPar3, AB.aAsgT, AB.aNext, AB.aC, AB.aOp2, AB.aUn, AB.aNil, AB.aCons, AB.aCB, AB.aTru, AB.aAndV, AB.aOrV, AB.aNotV, AB.aChain, AB.aNoPart, AB.aPart, AB.aSl, AB.aTup, AB.aLst, AB.aCall, AB.aCallR, AB.aIsi, AB.aLc, AB.aFor, AB.aWhile, AB.aiR1, AB.aiR2, AB.aiR3, AB.aiU, AB.aiU.on1', AB.aiE, AB.agName, AB.agNil, AB.agCons, AB.agTup, AB.aTold, AB.aDrw, AB.aListR1, AB.aListR2, AB.aYes, AB.lookAll, AB.datAll, AB.startS, AB.startR, AB.endA, AB.endR, AB.itemsD, AB.noOwn, AB.wipeS, AB.isNoneD, AB.truD, AB.truOk, Bool.not_true, Bool.not_false, AB.aVar_eq, AB.aFrz_eq, AB.varK_val, AB.varK_lst, AB.varK_drw, AB.frzSK_lst, AB.frzSK_val, AB.look_ali, AB.aliK_lst, AB.frz_eq, AB.frzR_eq, AB.toR_eq, AB.aTB_eq, AB.aAsg_eq, AB.aIfS_eq, AB.aNotT_eq, AB.aAndT_eq, AB.aOrT_eq, AB.aIf_eq, AB.frzK_dat, AB.frzK_new, AB.frzRK_dat, AB.frzRK_new, AB.frzRK_drw, AB.toRK_dat, AB.tbK_bool, AB.asgK_dat, AB.asgK_new, AB.asgK_drw, AB.iteK_true, AB.iteK_false, AB.fAdd_int, AB.fAdd_tup, AB.fAdd_lst, AB.fAdd_str, AB.fSub_int, AB.fMul_int, AB.fMul_lst, AB.fDiv_int, AB.fMod_int, AB.fPow_int, AB.fShl_int, AB.fShr_int, AB.fAnd1_int, AB.fCmp_int, AB.fNeg_int, AB.fIs_non, AB.fIsNot_non, AB.fIs_bool, AB.fIsNot_bool, AB.fIx_lst, AB.fIx_tup, AB.fIx_scr, AB.fIx_str, AB.fSl_lst, AB.fSl_tup, AB.fAbs_int, AB.fInt_int, AB.fInt_bool, AB.fMax2_int, AB.fMin2_int, AB.fLen_scr, AB.fLen_lst, AB.fLen_tup, AB.fLen_str, AB.fTupleOf_lst, AB.fTupleOf_tup, AB.fListOf_lst, AB.fListOf_tup, AB.fSum_lst, AB.fSum_tup, AB.fLstRev_lst, AB.fEq_eq, AB.fNe_eq, AB.on2_ss, AB.on1_s, AB.look_dat, AB.eqv_ii, AB.eqv_bb, AB.eqv_ss, AB.shaped_int, AB.shaped_b, AB.shaped_non, AB.isD_int_non, AB.isD_int_bl, AB.isD_int_int, AB.isD_int_str, AB.isD_int_lst, AB.isD_int_tup, AB.isD_bool_non, AB.isD_bool_bl, AB.isD_bool_int, AB.isD_bool_str, AB.isD_bool_lst, AB.isD_bool_tup, AB.isD_list_non, AB.isD_list_bl, AB.isD_list_int, AB.isD_list_str, AB.isD_list_lst, AB.isD_list_tup, AB.isD_tuple_non, AB.isD_tuple_bl, AB.isD_tuple_int, AB.isD_tuple_str, AB.isD_tuple_lst, AB.isD_tuple_tup, AB.isD_str_non, AB.isD_str_bl, AB.isD_str_int, AB.isD_str_str, AB.isD_str_lst, AB.isD_str_tup, List.map_cons, List.map_nil, List.length_cons, List.length_nil, List.replicate_succ, List.replicate_zero, List.cons_append, List.nil_append, List.append_nil, List.set_cons_zero, List.set_cons_succ, List.set_nil, List.getElem?_cons_zero, List.getElem?_cons_succ, List.getElem?_nil, Nat.sub_self, Nat.reduceAdd, Nat.reduceSub, Nat.zero_add, Nat.add_zero, Bool.false_eq_true, if_false, if_true, Bool.not_true, Bool.not_false, reduceIte]
  refine ⟨by decide, _, rfl, dep2 (dep_int _ _) (dep_int _ _), ?_⟩
  simp only [AB.aSeq, AB.aDrop, AB.aRet, AB.aRetN, AB.aRetV, AB.aBrk, AB.aCt, AB.aApp, AB.aAug, AB.aRaise, AB.aPar, AB.aPar3, AB.aAsgT, AB.aNext, AB.aC, AB.aOp2, AB.aUn, AB.aNil, AB.aCons, AB.aCB, AB.aTru, AB.aAndV, AB.aOrV, AB.aNotV, AB.aChain, AB.aNoPart, AB.aPart, AB.aSl, AB.aTup, AB.aLst, AB.aCall, AB.aCallR, AB.aIsi, AB.aLc, AB.aFor, AB.aWhile, AB.aiR1, AB.aiR2, AB.aiR3, AB.aiU, AB.aiU.on1', AB.aiE, AB.agName, AB.agNil, AB.agCons, AB.agTup, AB.aTold, AB.aDrw, AB.aListR1, AB.aListR2, AB.aYes, AB.lookAll, AB.datAll, AB.startS, AB.startR, AB.endA, AB.endR, AB.itemsD, AB.noOwn, AB.wipeS, AB.isNoneD, AB.truD, AB.truOk, Bool.not_true, Bool.not_false, AB.aVar_eq, AB.aFrz_eq, AB.varK_val, AB.varK_lst, AB.varK_drw, AB.frzSK_lst, AB.frzSK_val, AB.look_ali, AB.aliK_lst, AB.frz_eq, AB.frzR_eq, AB.toR_eq, AB.aTB_eq, AB.aAsg_eq, AB.aIfS_eq, AB.aNotT_eq, AB.aAndT_eq, AB.aOrT_eq, AB.aIf_eq, AB.frzK_dat, AB.frzK_new, AB.frzRK_dat, AB.frzRK_new, AB.frzRK_drw, AB.toRK_dat, AB.tbK_bool, AB.asgK_dat, AB.asgK_new, AB.asgK_drw, AB.iteK_true, AB.iteK_false, AB.fAdd_int, AB.fAdd_tup, AB.fAdd_lst, AB.fAdd_str, AB.fSub_int, AB.fMul_int, AB.fMul_lst, AB.fDiv_int, AB.fMod_int, AB.fPow_int, AB.fShl_int, AB.fShr_int, AB.fAnd1_int, AB.fCmp_int, AB.fNeg_int, AB.fIs_non, AB.fIsNot_non, AB.fIs_bool, AB.fIsNot_bool, AB.fIx_lst, AB.fIx_tup, AB.fIx_scr, AB.fIx_str, AB.fSl_lst, AB.fSl_tup, AB.fAbs_int, AB.fInt_int, AB.fInt_bool, AB.fMax2_int, AB.fMin2_int, AB.fLen_scr, AB.fLen_lst, AB.fLen_tup, AB.fLen_str, AB.fTupleOf_lst, AB.fTupleOf_tup, AB.fListOf_lst, AB.fListOf_tup, AB.fSum_lst, AB.fSum_tup, AB.fLstRev_lst, AB.fEq_eq, AB.fNe_eq, AB.on2_ss, AB.on1_s, AB.look_dat, AB.eqv_ii, AB.eqv_bb, AB.eqv_ss, AB.shaped_int, AB.shaped_b, AB.shaped_non, AB.isD_int_non, AB.isD_int_bl, AB.isD_int_int, AB.isD_int_str, AB.isD_int_lst, AB.isD_int_tup, AB.isD_bool_non, AB.isD_bool_bl, AB.isD_bool_int, AB.isD_bool_str, AB.isD_bool_lst, AB.isD_bool_tup, AB.isD_list_non, AB.isD_list_bl, AB.isD_list_int, AB.isD_list_str, AB.isD_list_lst, AB.isD_list_tup, AB.isD_tuple_non, AB.isD_tuple_bl, AB.isD_tuple_int, AB.isD_tuple_str, AB.isD_tuple_lst, AB.isD_tuple_tup, AB.isD_str_non, AB.isD_str_bl, AB.isD_str_int, AB.isD_str_str, AB.isD_str_lst, AB.isD_str_tup, List.map_cons, List.map_nil, List.length_cons, List.length_nil, List.replicate_succ, List.replicate_zero, List.cons_append, List.nil_append, List.append_nil, List.set_cons_zero, List.set_cons_succ, List.set_nil, List.getElem?_cons_zero, List.getElem?_cons_succ, List.getElem?_nil, Nat.sub_self, Nat.reduceAdd, Nat.reduceSub, Nat.zero_add, Nat.add_zero, Bool.false_eq_true, if_false, if_true, Bool.not_true, Bool.not_false, reduceIte]
  simp only [a_law_r4, AB.aSeq, AB.aDrop, AB.aRet, AB.aRetN, AB.aRetV, AB.aBrk, AB.aCt, AB.aApp, AB.aAug, AB.aRaise, AB.aPar, AB.aPar3, AB.aAsgT, AB.aNext, AB.aC, AB.aOp2, AB.aUn, AB.aNil, AB.aCons, AB.aCB, AB.aTru, AB.aAndV, AB.aOrV, AB.aNotV, AB.aChain, AB.aNoPart, AB.aPart, AB.aSl, AB.aTup, AB.aLst, AB.aCall, AB.aCallR, AB.aIsi, AB.aLc, AB.aFor, AB.aWhile, AB.aiR1, AB.aiR2, AB.aiR3, AB.aiU, AB.aiU.on1', AB.aiE, AB.agName, AB.agNil, AB.agCons, AB.agTup, AB.aTold, AB.aDrw, AB.aListR1, AB.aListR2, AB.aYes, AB.lookAll, AB.datAll, AB.startS, AB.startR, AB.endA, AB.endR, AB.itemsD, AB.noOwn, AB.wipeS, AB.isNoneD, AB.truD, AB.truOk, Bool.not_true, Bool.not_false, AB.aVar_eq, AB.aFrz_eq, AB.varK_val, AB.varK_lst, AB.varK_drw, AB.frzSK_lst, AB.frzSK_val, AB.look_ali, AB.aliK_lst, AB.frz_eq, AB.frzR_eq, AB.toR_eq, AB.aTB_eq, AB.aAsg_eq, AB.aIfS_eq, AB.aNotT_eq, AB.aAndT_eq, AB.aOrT_eq, AB.aIf_eq, AB.frzK_dat, AB.frzK_new, AB.frzRK_dat, AB.frzRK_new, AB.frzRK_drw, AB.toRK_dat, AB.tbK_bool, AB.asgK_dat, AB.asgK_new, AB.asgK_drw, AB.iteK_true, AB.iteK_false, AB.fAdd_int, AB.fAdd_tup, AB.fAdd_lst, AB.fAdd_str, AB.fSub_int, AB.fMul_int, AB.fMul_lst, AB.fDiv_int, AB.fMod_int, AB.fPow_int, AB.fShl_int, AB.fShr_int, AB.fAnd1_int, AB.fCmp_int, AB.fNeg_int, AB.fIs_non, AB.fIsNot_non, AB.fIs_bool, AB.fIsNot_bool, AB.fIx_lst, AB.fIx_tup, AB.fIx_scr, AB.fIx_str, AB.fSl_lst, AB.fSl_tup, AB.fAbs_int, AB.fInt_int, AB.fInt_bool, AB.fMax2_int, AB.fMin2_int, AB.fLen_scr, AB.fLen_lst, AB.fLen_tup, AB.fLen_str, AB.fTupleOf_lst, AB.fTupleOf_tup, AB.fListOf_lst, AB.fListOf_tup, AB.fSum_lst, AB.fSum_tup, AB.fLstRev_lst, AB.fEq_eq, AB.fNe_eq, AB.on2_ss, AB.on1_s, AB.look_dat, AB.eqv_ii, AB.eqv_bb, AB.eqv_ss, AB.shaped_int, AB.shaped_b, AB.shaped_non, AB.isD_int_non, AB.isD_int_bl, AB.isD_int_int, AB.isD_int_str, AB.isD_int_lst, AB.isD_int_tup, AB.isD_bool_non, AB.isD_bool_bl, AB.isD_bool_int, AB.isD_bool_str, AB.isD_bool_lst, AB.isD_bool_tup, AB.isD_list_non, AB.isD_list_bl, AB.isD_list_int, AB.isD_list_str, AB.isD_list_lst, AB.isD_list_tup, AB.isD_tuple_non, AB.isD_tuple_bl, AB.isD_tuple_int, AB.isD_tuple_str, AB.isD_tuple_lst, AB.isD_tuple_tup, AB.isD_str_non, AB.isD_str_bl, AB.isD_str_int, AB.isD_str_str, AB.isD_str_lst, AB.isD_str_tup, List.map_cons, List.map_nil, List.length_cons, List.length_nil, List.replicate_succ, List.replicate_zero, List.cons_append, List.nil_append, List.append_nil, List.set_cons_zero, List.set_cons_succ, List.set_nil, List.getElem?_cons_zero, List.getElem?_cons_succ, List.getElem?_nil, Nat.sub_self, Nat.reduceAdd, Nat.reduceSub, Nat.zero_add, Nat.add_zero, Bool.false_eq_true, if_false, if_true, Bool.not_true, Bool.not_false, reduceIte]
  rw [List.length_map, rows_len]
  have hz : chI l o ≤ 256 := Nat.le_trans (chI_le l o) (Nat.pow_le_pow_right (by decide) hl)
  refine ⟨by omega, by omega, fun k s => ∃ s5, noOwnB s5 = true ∧ s = [s0, s1, .val (.int l), .val (.int o), .val (.list ((rows l o).map rowD)), s5, s6, s7, s8, s9, s10, s11, s12, .no], ⟨s5, h5, rfl⟩, ?_, ?_⟩
  · rintro k d s hd ⟨s5, h5, rfl⟩
    obtain ⟨hk, rfl⟩ := rangeD_get hd
    rw [Int.toNat_natCast] at hk
    simp only [AB.aSeq, AB.aAsg, AB.aIfS, AB.aDrop, AB.aRet, AB.aRetN, AB.aRetV, AB.aBrk, AB.aCt, AB.aFrz, AB.aApp, AB.aAug, AB.aRaise, AB.aPar, AB.aPar3, AB.aAsgT, AB.aNext, AB.aVar, AB.aC, AB.frz, AB.frzR, AB.toR, AB.aOp2, AB.aUn, AB.aNil, AB.aCons, AB.aCB, AB.aTB, AB.aTru, AB.aNotT, AB.aAndT, AB.aOrT, AB.aAndV, AB.aOrV, AB.aNotV, AB.aIf, AB.aChain, AB.aNoPart, AB.aPart, AB.aSl, AB.aTup, AB.aLst, AB.aCall, AB.aCallR, AB.aIsi, AB.aLc, AB.aFor, AB.aWhile, AB.aiR1, AB.aiR2, AB.aiR3, AB.aiU, AB.aiU.on1', AB.aiE, AB.agName, AB.agNil, AB.agCons, AB.agTup, AB.aTold, AB.aDrw, AB.aListR1, AB.aListR2, AB.aYes, AB.on1, AB.on2, AB.look, AB.lookAll, AB.datAll, AB.startS, AB.startR, AB.endA, AB.endR, AB.itemsD, AB.noOwn, AB.wipeS, AB.fAdd, AB.fSub, AB.fMul, AB.fDiv, AB.fMod, AB.fPow, AB.fShl, AB.fShr, AB.fAnd1, AB.fEq, AB.fNe, AB.fCmp, AB.fIs, AB.fIsNot, AB.fNeg, AB.fIx, AB.fSl, AB.fAbs, AB.fInt, AB.fMax2, AB.fMin2, AB.fLen, AB.fTupleOf, AB.fListOf, AB.fSum, AB.fLstRev, AB.isNoneD, AB.truD, AB.truOk, AB.isD_int_non, AB.isD_int_bl, AB.isD_int_int, AB.isD_int_str, AB.isD_int_lst, AB.isD_int_tup, AB.isD_bool_non, AB.isD_bool_bl, AB.isD_bool_int, AB.isD_bool_str, AB.isD_bool_lst, AB.isD_bool_tup, AB.isD_list_non, AB.isD_list_bl, AB.isD_list_int, AB.isD_list_str, AB.isD_list_lst, AB.isD_list_tup, AB.isD_tuple_non, AB.isD_tuple_bl, AB.isD_tuple_int, AB.isD_tuple_str, AB.isD_tuple_lst, AB.isD_tuple_tup, AB.isD_str_non, AB.isD_str_bl, AB.isD_str_int, AB.isD_str_str, AB.isD_str_lst, AB.isD_str_tup, List.map_cons, List.map_nil, List.length_cons, List.length_nil, List.replicate_succ, List.replicate_zero, List.cons_append, List.nil_append, List.append_nil, List.set_cons_zero, List.set_cons_succ, List.set_nil, List.getElem?_cons_zero, List.getElem?_cons_succ, List.getElem?_nil, Nat.sub_self, Nat.reduceAdd, Nat.reduceSub, Nat.zero_add, Nat.add_zero, Bool.false_eq_true, if_false, if_true, Bool.not_true, Bool.not_false, reduceIte, Int.zero_add]
    exact law_1 _ l k o hl hk _ _ _ _ _ _ _ _ _ _ ⟨_, rfl, rfl⟩
  · rintro s ⟨s5, h5, rfl⟩
    exact law_r3 A l o hl _ _ _ _ _ _ _ _ _ _ (hA _ _ h5)
end K15
namespace K15
open PySem PySem.Spec PyProof.Rows L2 AB
theorem nat_of {r : Int} (h : 0 ≤ r) : ∃ n : Nat, r = (n : Int) := ⟨r.toNat, by omega⟩
theorem law_r7 (A : AD) (l : Addr) (s0 s2 s3 s4 s5 s6 s7 s8 s9 s10 s11 s12 s13 : SV)
    (hA : ∀ s10 s11, A.nx [s0, .drw l, s2, s3, s4, s5, s6, s7, s8, s9, s10, s11, s12, s13]) :
    a_law_r7 A [s0, .drw l, s2, s3, s4, s5, s6, s7, s8, s9, s10, s11, s12, s13] := by
  simp only [a_law_r7, AB.aSeq, AB.aDrop, AB.aRet, AB.aRetN, AB.aRetV, AB.aBrk, AB.aCt, AB.aApp, AB.aAug, AB.aRaise, AB.aPar, AB.aPar3, AB.aAsgT, AB.aNext, AB.aC, AB.aOp2, AB.aUn, AB.aNil, AB.aCons, AB.aCB, AB.aTru, AB.aAndV, AB.aOrV, AB.aNotV, AB.aChain, AB.aNoPart, AB.aPart, AB.aSl, AB.aTup, AB.aLst, AB.aCall, AB.aCallR, AB.aIsi, AB.aLc, AB.aFor, AB.aWhile, AB.aiR1, AB.aiR2, AB.aiR3, AB.aiU, AB.aiU.on1', AB.aiE, AB.agName, AB.agNil, AB.agCons, AB.agTup, AB.aTold, AB.aDrw, AB.aListR1, AB.aListR2, AB.aYes, AB.lookAll, AB.datAll, AB.startS, AB.startR, AB.endA, AB.endR, AB.itemsD, AB.noOwn, AB.wipeS, AB.isNoneD, AB.truD, AB.truOk, Bool.not_true, Bool.not_false, AB.aVar_eq, AB.aFrz_eq, AB.varK_val, AB.varK_lst, AB.varK_drw, AB.frzSK_lst, AB.frzSK_val, AB.look_ali, AB.aliK_lst, AB.frz_eq, AB.frzR_eq, AB.toR_eq, AB.aTB_eq, AB.aAsg_eq, AB.aIfS_eq, AB.aNotT_eq, AB.aAndT_eq, AB.aOrT_eq, AB.aIf_eq, AB.frzK_dat, AB.frzK_new, AB.frzRK_dat, AB.frzRK_new, AB.frzRK_drw, AB.toRK_dat, AB.tbK_bool, AB.asgK_dat, AB.asgK_new, AB.asgK_drw, AB.iteK_true, AB.iteK_false, AB.fAdd_int, AB.fAdd_tup, AB.fAdd_lst, AB.fAdd_str, AB.fSub_int, AB.fMul_int, AB.fMul_lst, AB.fDiv_int, AB.fMod_int, AB.fPow_int, AB.fShl_int, AB.fShr_int, AB.fAnd1_int, AB.fCmp_int, AB.fNeg_int, AB.fIs_non, AB.fIsNot_non, AB.fIs_bool, AB.fIsNot_bool, AB.fIx_lst, AB.fIx_tup, AB.fIx_scr, AB.fIx_str, AB.fSl_lst, AB.fSl_tup, AB.fAbs_int, AB.fInt_int, AB.fInt_bool, AB.fMax2_int, AB.fMin2_int, AB.fLen_scr, AB.fLen_lst, AB.fLen_tup, AB.fLen_str, AB.fTupleOf_lst, AB.fTupleOf_tup, AB.fListOf_lst, AB.fListOf_tup, AB.fSum_lst, AB.fSum_tup, AB.fLstRev_lst, AB.fEq_eq, AB.fNe_eq, AB.on2_ss, AB.on1_s, AB.look_dat, AB.eqv_ii, AB.eqv_bb, AB.eqv_ss, AB.shaped_int, AB.shaped_b, AB.shaped_non, AB.isD_int_non, AB.isD_int_bl, AB.isD_int_int, AB.isD_int_str, AB.isD_int_lst, AB.isD_int_tup, AB.isD_bool_non, AB.isD_bool_bl, AB.isD_bool_int, AB.isD_bool_str, AB.isD_bool_lst, AB.isD_bool_tup, AB.isD_list_non, AB.isD_list_bl, AB.isD_list_int, AB.isD_list_str, AB.isD_list_lst, AB.isD_list_tup, AB.isD_tuple_non, AB.isD_tuple_bl, AB.isD_tuple_int, AB.isD_tuple_str, AB.isD_tuple_lst, AB.isD_tuple_tup, AB.isD_str_non, AB.isD_str_bl, AB.isD_str_int, AB.isD_str_str, AB.isD_str_lst, AB.isD_str_tup, List.map_cons, List.map_nil, List.length_cons, List.length_nil, List.replicate_succ, List.replicate_zero, List.cons_append, List.nil_append, List.append_nil, List.set_cons_zero, List.set_cons_succ, List.set_nil, List.getElem?_cons_zero, List.getElem?_cons_succ, List.getElem?_nil, Nat.sub_self, Nat.reduceAdd, Nat.reduceSub, Nat.zero_add, Nat.add_zero, Bool.false_eq_true, if_false, if_true, Bool.not_true, Bool.not_false, reduceIte]
  refine ⟨⟨by decide, by decide, by decide⟩, ?_⟩
  refine ⟨_, rfl, by decide, fun r r0 r1 => ?_⟩
  obtain ⟨n, rfl⟩ := nat_of r0
  try simp only [AB.aSeq, AB.aDrop, AB.aRet, AB.aRetN, AB.aRetV, AB.aBrk, AB.aCt, AB.aApp, AB.aAug, AB.aRaise, AB.aPar, AB.aPar3, AB.aAsgT, AB.aNext, AB.aC, AB.aOp2, AB.aUn, AB.aNil, AB.aCons, AB.aCB, AB.aTru, AB.aAndV, AB.aOrV, AB.aNotV, AB.aChain, AB.aNoPart, AB.aPart, AB.aSl, AB.aTup, AB.aLst, AB.aCall, AB.aCallR, AB.aIsi, AB.aLc, AB.aFor, AB.aWhile, AB.aiR1, AB.aiR2, AB.aiR3, AB.aiU, AB.aiU.on1', AB.aiE, AB.agName, AB.agNil, AB.agCons, AB.agTup, AB.aTold, AB.aDrw, AB.aListR1, AB.aListR2, AB.aYes, AB.lookAll, AB.datAll, AB.startS, AB.startR, AB.endA, AB.endR, AB.itemsD, AB.noOwn, AB.wipeS, AB.isNoneD, AB.truD, AB.truOk, Bool.not_true, Bool.not_false, AB.aVar_eq, AB.aFrz_eq, AB.varK_val, AB.varK_lst, AB.varK_drw, AB.frzSK_lst, AB.frzSK_val, AB.look_ali, AB.aliK_lst, AB.frz_eq, AB.frzR_eq, AB.toR_eq, AB.aTB_eq, AB.aAsg_eq, AB.aIfS_eq, AB.aNotT_eq, AB.aAndT_eq, AB.aOrT_eq, AB.aIf_eq, AB.frzK_dat, AB.frzK_new, AB.frzRK_dat, AB.frzRK_new, AB.frzRK_drw, AB.toRK_dat, AB.tbK_bool, AB.asgK_dat, AB.asgK_new, AB.asgK_drw, AB.iteK_true, AB.iteK_false, AB.fAdd_int, AB.fAdd_tup, AB.fAdd_lst, AB.fAdd_str, AB.fSub_int, AB.fMul_int, AB.fMul_lst, AB.fDiv_int, AB.fMod_int, AB.fPow_int, AB.fShl_int, AB.fShr_int, AB.fAnd1_int, AB.fCmp_int, AB.fNeg_int, AB.fIs_non, AB.fIsNot_non, AB.fIs_bool, AB.fIsNot_bool, AB.fIx_lst, AB.fIx_tup, AB.fIx_scr, AB.fIx_str, AB.fSl_lst, AB.fSl_tup, AB.fAbs_int, AB.fInt_int, AB.fInt_bool, AB.fMax2_int, AB.fMin2_int, AB.fLen_scr, AB.fLen_lst, AB.fLen_tup, AB.fLen_str, AB.fTupleOf_lst, AB.fTupleOf_tup, AB.fListOf_lst, AB.fListOf_tup, AB.fSum_lst, AB.fSum_tup, AB.fLstRev_lst, AB.fEq_eq, AB.fNe_eq, AB.on2_ss, AB.on1_s, AB.look_dat, AB.eqv_ii, AB.eqv_bb, AB.eqv_ss, AB.shaped_int, AB.shaped_b, AB.shaped_non, AB.isD_int_non, AB.isD_int_bl, AB.isD_int_int, AB.isD_int_str, AB.isD_int_lst, AB.isD_int_tup, AB.isD_bool_non, AB.isD_bool_bl, AB.isD_bool_int, AB.isD_bool_str, AB.isD_bool_lst, AB.isD_bool_tup, AB.isD_list_non, AB.isD_list_bl, AB.isD_list_int, AB.isD_list_str, AB.isD_list_lst, AB.isD_list_tup, AB.isD_tuple_non, AB.isD_tuple_bl, AB.isD_tuple_int, AB.isD_tuple_str, AB.isD_tuple_lst, AB.isD_tuple_tup, AB.isD_str_non, AB.isD_str_bl, AB.isD_str_int, AB.isD_str_str, AB.isD_str_lst, AB.isD_str_tup, List.map_cons, List.map_nil, List.length_cons, List.length_nil, List.replicate_succ, List.replicate_zero, List.cons_append, List.nil_append, List.append_nil, List.set_cons_zero, List.set_cons_succ, List.set_nil, List.getElem?_cons_zero, List.getElem?_cons_succ, List.getElem?_nil, Nat.sub_self, Nat.reduceAdd, Nat.reduceSub, Nat.zero_add, Nat.add_zero, Bool.false_eq_true, if_false, if_true, Bool.not_true, Bool.not_false, reduceIte]
  refine ⟨_, rfl, by decide, fun q q0 q1 => ?_⟩
  obtain ⟨w, rfl⟩ := nat_of q0
  try simp only [AB.aSeq, AB.aDrop, AB.aRet, AB.aRetN, AB.aRetV, AB.aBrk, AB.aCt, AB.aApp, AB.aAug, AB.aRaise, AB.aPar, AB.aPar3, AB.aAsgT, AB.aNext, AB.aC, AB.aOp2, AB.aUn, AB.aNil, AB.aCons, AB.aCB, AB.aTru, AB.aAndV, AB.aOrV, AB.aNotV, AB.aChain, AB.aNoPart, AB.aPart, AB.aSl, AB.aTup, AB.aLst, AB.aCall, AB.aCallR, AB.aIsi, AB.aLc, AB.aFor, AB.aWhile, AB.aiR1, AB.aiR2, AB.aiR3, AB.aiU, AB.aiU.on1', AB.aiE, AB.agName, AB.agNil, AB.agCons, AB.agTup, AB.aTold, AB.aDrw, AB.aListR1, AB.aListR2, AB.aYes, AB.lookAll, AB.datAll, AB.startS, AB.startR, AB.endA, AB.endR, AB.itemsD, AB.noOwn, AB.wipeS, AB.isNoneD, AB.truD, AB.truOk, Bool.not_true, Bool.not_false, AB.aVar_eq, AB.aFrz_eq, AB.varK_val, AB.varK_lst, AB.varK_drw, AB.frzSK_lst, AB.frzSK_val, AB.look_ali, AB.aliK_lst, AB.frz_eq, AB.frzR_eq, AB.toR_eq, AB.aTB_eq, AB.aAsg_eq, AB.aIfS_eq, AB.aNotT_eq, AB.aAndT_eq, AB.aOrT_eq, AB.aIf_eq, AB.frzK_dat, AB.frzK_new, AB.frzRK_dat, AB.frzRK_new, AB.frzRK_drw, AB.toRK_dat, AB.tbK_bool, AB.asgK_dat, AB.asgK_new, AB.asgK_drw, AB.iteK_true, AB.iteK_false, AB.fAdd_int, AB.fAdd_tup, AB.fAdd_lst, AB.fAdd_str, AB.fSub_int, AB.fMul_int, AB.fMul_lst, AB.fDiv_int, AB.fMod_int, AB.fPow_int, AB.fShl_int, AB.fShr_int, AB.fAnd1_int, AB.fCmp_int, AB.fNeg_int, AB.fIs_non, AB.fIsNot_non, AB.fIs_bool, AB.fIsNot_bool, AB.fIx_lst, AB.fIx_tup, AB.fIx_scr, AB.fIx_str, AB.fSl_lst, AB.fSl_tup, AB.fAbs_int, AB.fInt_int, AB.fInt_bool, AB.fMax2_int, AB.fMin2_int, AB.fLen_scr, AB.fLen_lst, AB.fLen_tup, AB.fLen_str, AB.fTupleOf_lst, AB.fTupleOf_tup, AB.fListOf_lst, AB.fListOf_tup, AB.fSum_lst, AB.fSum_tup, AB.fLstRev_lst, AB.fEq_eq, AB.fNe_eq, AB.on2_ss, AB.on1_s, AB.look_dat, AB.eqv_ii, AB.eqv_bb, AB.eqv_ss, AB.shaped_int, AB.shaped_b, AB.shaped_non, AB.isD_int_non, AB.isD_int_bl, AB.isD_int_int, AB.isD_int_str, AB.isD_int_lst, AB.isD_int_tup, AB.isD_bool_non, AB.isD_bool_bl, AB.isD_bool_int, AB.isD_bool_str, AB.isD_bool_lst, AB.isD_bool_tup, AB.isD_list_non, AB.isD_list_bl, AB.isD_list_int, AB.isD_list_str, AB.isD_list_lst, AB.isD_list_tup, AB.isD_tuple_non, AB.isD_tuple_bl, AB.isD_tuple_int, AB.isD_tuple_str, AB.isD_tuple_lst, AB.isD_tuple_tup, AB.isD_str_non, AB.isD_str_bl, AB.isD_str_int, AB.isD_str_str, AB.isD_str_lst, AB.isD_str_tup, List.map_cons, List.map_nil, List.length_cons, List.length_nil, List.replicate_succ, List.replicate_zero, List.cons_append, List.nil_append, List.append_nil, List.set_cons_zero, List.set_cons_succ, List.set_nil, List.getElem?_cons_zero, List.getElem?_cons_succ, List.getElem?_nil, Nat.sub_self, Nat.reduceAdd, Nat.reduceSub, Nat.zero_add, Nat.add_zero, Bool.false_eq_true, if_false, if_true, Bool.not_true, Bool.not_false, reduceIte]
  have hn : n < 2 ^ (20 + w) := by
    have h1 : n < 1000000 := by
      have h2 : ((10 : Int) ^ (6 : Int).toNat) = 1000000 := by decide
      rw [h2] at r1
      omega
    have h3 : (2 : Nat) ^ 20 ≤ 2 ^ (20 + w) := Nat.pow_le_pow_right (by decide) (by omega)
    have h4 : (2 : Nat) ^ 20 = 1048576 := by decide
    omega
  have e : ((20 : Int) + (w : Int)) = ((20 + w : Nat) : Int) := by omega
  rw [e]
  have hw : 20 + w ≤ 1000 := by omega
  refine ⟨n, 20 + w, rfl, hw, ?_⟩
  try simp only [AB.aSeq, AB.aDrop, AB.aRet, AB.aRetN, AB.aRetV, AB.aBrk, AB.aCt, AB.aApp, AB.aAug, AB.aRaise, AB.aPar, AB.aPar3, AB.aAsgT, AB.aNext, AB.aC, AB.aOp2, AB.aUn, AB.aNil, AB.aCons, AB.aCB, AB.aTru, AB.aAndV, AB.aOrV, AB.aNotV, AB.aChain, AB.aNoPart, AB.aPart, AB.aSl, AB.aTup, AB.aLst, AB.aCall, AB.aCallR, AB.aIsi, AB.aLc, AB.aFor, AB.aWhile, AB.aiR1, AB.aiR2, AB.aiR3, AB.aiU, AB.aiU.on1', AB.aiE, AB.agName, AB.agNil, AB.agCons, AB.agTup, AB.aTold, AB.aDrw, AB.aListR1, AB.aListR2, AB.aYes, AB.lookAll, AB.datAll, AB.startS, AB.startR, AB.endA, AB.endR, AB.itemsD, AB.noOwn, AB.wipeS, AB.isNoneD, AB.truD, AB.truOk, Bool.not_true, Bool.not_false, AB.aVar_eq, AB.aFrz_eq, AB.varK_val, AB.varK_lst, AB.varK_drw, AB.frzSK_lst, AB.frzSK_val, AB.look_ali, AB.aliK_lst, AB.frz_eq, AB.frzR_eq, AB.toR_eq, AB.aTB_eq, AB.aAsg_eq, AB.aIfS_eq, AB.aNotT_eq, AB.aAndT_eq, AB.aOrT_eq, AB.aIf_eq, AB.frzK_dat, AB.frzK_new, AB.frzRK_dat, AB.frzRK_new, AB.frzRK_drw, AB.toRK_dat, AB.tbK_bool, AB.asgK_dat, AB.asgK_new, AB.asgK_drw, AB.iteK_true, AB.iteK_false, AB.fAdd_int, AB.fAdd_tup, AB.fAdd_lst, AB.fAdd_str, AB.fSub_int, AB.fMul_int, AB.fMul_lst, AB.fDiv_int, AB.fMod_int, AB.fPow_int, AB.fShl_int, AB.fShr_int, AB.fAnd1_int, AB.fCmp_int, AB.fNeg_int, AB.fIs_non, AB.fIsNot_non, AB.fIs_bool, AB.fIsNot_bool, AB.fIx_lst, AB.fIx_tup, AB.fIx_scr, AB.fIx_str, AB.fSl_lst, AB.fSl_tup, AB.fAbs_int, AB.fInt_int, AB.fInt_bool, AB.fMax2_int, AB.fMin2_int, AB.fLen_scr, AB.fLen_lst, AB.fLen_tup, AB.fLen_str, AB.fTupleOf_lst, AB.fTupleOf_tup, AB.fListOf_lst, AB.fListOf_tup, AB.fSum_lst, AB.fSum_tup, AB.fLstRev_lst, AB.fEq_eq, AB.fNe_eq, AB.on2_ss, AB.on1_s, AB.look_dat, AB.eqv_ii, AB.eqv_bb, AB.eqv_ss, AB.shaped_int, AB.shaped_b, AB.shaped_non, AB.isD_int_non, AB.isD_int_bl, AB.isD_int_int, AB.isD_int_str, AB.isD_int_lst, AB.isD_int_tup, AB.isD_bool_non, AB.isD_bool_bl, AB.isD_bool_int, AB.isD_bool_str, AB.isD_bool_lst, AB.isD_bool_tup, AB.isD_list_non, AB.isD_list_bl, AB.isD_list_int, AB.isD_list_str, AB.isD_list_lst, AB.isD_list_tup, AB.isD_tuple_non, AB.isD_tuple_bl, AB.isD_tuple_int, AB.isD_tuple_str, AB.isD_tuple_lst, AB.isD_tuple_tup, AB.isD_str_non, AB.isD_str_bl, AB.isD_str_int, AB.isD_str_str, AB.isD_str_lst, AB.isD_str_tup, List.map_cons, List.map_nil, List.length_cons, List.length_nil, List.replicate_succ, List.replicate_zero, List.cons_append, List.nil_append, List.append_nil, List.set_cons_zero, List.set_cons_succ, List.set_nil, List.getElem?_cons_zero, List.getElem?_cons_succ, List.getElem?_nil, Nat.sub_self, Nat.reduceAdd, Nat.reduceSub, Nat.zero_add, Nat.add_zero, Bool.false_eq_true, if_false, if_true, Bool.not_true, Bool.not_false, reduceIte]
  refine ⟨n, 20 + w, rfl, hw, ?_⟩
  try simp only [AB.aSeq, AB.aDrop, AB.aRet, AB.aRetN, AB.aRetV, AB.aBrk, AB.aCt, AB.aApp, AB.aAug, AB.aRaise, AB.aPar, AB.aPar3, AB.aAsgT, AB.aNext, AB.aC, AB.aOp2, AB.aUn, AB.aNil, AB.aCons, AB.aCB, AB.aTru, AB.aAndV, AB.aOrV, AB.aNotV, AB.aChain, AB.aNoPart, AB.aPart, AB.aSl, AB.aTup, AB.aLst, AB.aCall, AB.aCallR, AB.aIsi, AB.aLc, AB.aFor, AB.aWhile, AB.aiR1, AB.aiR2, AB.aiR3, AB.aiU, AB.aiU.on1', AB.aiE, AB.agName, AB.agNil, AB.agCons, AB.agTup, AB.aTold, AB.aDrw, AB.aListR1, AB.aListR2, AB.aYes, AB.lookAll, AB.datAll, AB.startS, AB.startR, AB.endA, AB.endR, AB.itemsD, AB.noOwn, AB.wipeS, AB.isNoneD, AB.truD, AB.truOk, Bool.not_true, Bool.not_false, AB.aVar_eq, AB.aFrz_eq, AB.varK_val, AB.varK_lst, AB.varK_drw, AB.frzSK_lst, AB.frzSK_val, AB.look_ali, AB.aliK_lst, AB.frz_eq, AB.frzR_eq, AB.toR_eq, AB.aTB_eq, AB.aAsg_eq, AB.aIfS_eq, AB.aNotT_eq, AB.aAndT_eq, AB.aOrT_eq, AB.aIf_eq, AB.frzK_dat, AB.frzK_new, AB.frzRK_dat, AB.frzRK_new, AB.frzRK_drw, AB.toRK_dat, AB.tbK_bool, AB.asgK_dat, AB.asgK_new, AB.asgK_drw, AB.iteK_true, AB.iteK_false, AB.fAdd_int, AB.fAdd_tup, AB.fAdd_lst, AB.fAdd_str, AB.fSub_int, AB.fMul_int, AB.fMul_lst, AB.fDiv_int, AB.fMod_int, AB.fPow_int, AB.fShl_int, AB.fShr_int, AB.fAnd1_int, AB.fCmp_int, AB.fNeg_int, AB.fIs_non, AB.fIsNot_non, AB.fIs_bool, AB.fIsNot_bool, AB.fIx_lst, AB.fIx_tup, AB.fIx_scr, AB.fIx_str, AB.fSl_lst, AB.fSl_tup, AB.fAbs_int, AB.fInt_int, AB.fInt_bool, AB.fMax2_int, AB.fMin2_int, AB.fLen_scr, AB.fLen_lst, AB.fLen_tup, AB.fLen_str, AB.fTupleOf_lst, AB.fTupleOf_tup, AB.fListOf_lst, AB.fListOf_tup, AB.fSum_lst, AB.fSum_tup, AB.fLstRev_lst, AB.fEq_eq, AB.fNe_eq, AB.on2_ss, AB.on1_s, AB.look_dat, AB.eqv_ii, AB.eqv_bb, AB.eqv_ss, AB.shaped_int, AB.shaped_b, AB.shaped_non, AB.isD_int_non, AB.isD_int_bl, AB.isD_int_int, AB.isD_int_str, AB.isD_int_lst, AB.isD_int_tup, AB.isD_bool_non, AB.isD_bool_bl, AB.isD_bool_int, AB.isD_bool_str, AB.isD_bool_lst, AB.isD_bool_tup, AB.isD_list_non, AB.isD_list_bl, AB.isD_list_int, AB.isD_list_str, AB.isD_list_lst, AB.isD_list_tup, AB.isD_tuple_non, AB.isD_tuple_bl, AB.isD_tuple_int, AB.isD_tuple_str, AB.isD_tuple_lst, AB.isD_tuple_tup, AB.isD_str_non, AB.isD_str_bl, AB.isD_str_int, AB.isD_str_str, AB.isD_str_lst, AB.isD_str_tup, List.map_cons, List.map_nil, List.length_cons, List.length_nil, List.replicate_succ, List.replicate_zero, List.cons_append, List.nil_append, List.append_nil, List.set_cons_zero, List.set_cons_succ, List.set_nil, List.getElem?_cons_zero, List.getElem?_cons_succ, List.getElem?_nil, Nat.sub_self, Nat.reduceAdd, Nat.reduceSub, Nat.zero_add, Nat.add_zero, Bool.false_eq_true, if_false, if_true, Bool.not_true, Bool.not_false, reduceIte]
  refine ⟨n, 20 + w, rfl, ?_⟩
  try simp only [AB.aSeq, AB.aDrop, AB.aRet, AB.aRetN, AB.aRetV, AB.aBrk, AB.aCt, AB.aApp, AB.aAug, AB.aRaise, AB.aPar, AB.aPar3, AB.aAsgT, AB.aNext, AB.aC, AB.aOp2, AB.aUn, AB.aNil, AB.aCons, AB.aCB, AB.aTru, AB.aAndV, AB.aOrV, AB.aNotV, AB.aChain, AB.aNoPart, AB.aPart, AB.aSl, AB.aTup, AB.aLst, AB.aCall, AB.aCallR, AB.aIsi, AB.aLc, AB.aFor, AB.aWhile, AB.aiR1, AB.aiR2, AB.aiR3, AB.aiU, AB.aiU.on1', AB.aiE, AB.agName, AB.agNil, AB.agCons, AB.agTup, AB.aTold, AB.aDrw, AB.aListR1, AB.aListR2, AB.aYes, AB.lookAll, AB.datAll, AB.startS, AB.startR, AB.endA, AB.endR, AB.itemsD, AB.noOwn, AB.wipeS, AB.isNoneD, AB.truD, AB.truOk, Bool.not_true, Bool.not_false, AB.aVar_eq, AB.aFrz_eq, AB.varK_val, AB.varK_lst, AB.varK_drw, AB.frzSK_lst, AB.frzSK_val, AB.look_ali, AB.aliK_lst, AB.frz_eq, AB.frzR_eq, AB.toR_eq, AB.aTB_eq, AB.aAsg_eq, AB.aIfS_eq, AB.aNotT_eq, AB.aAndT_eq, AB.aOrT_eq, AB.aIf_eq, AB.frzK_dat, AB.frzK_new, AB.frzRK_dat, AB.frzRK_new, AB.frzRK_drw, AB.toRK_dat, AB.tbK_bool, AB.asgK_dat, AB.asgK_new, AB.asgK_drw, AB.iteK_true, AB.iteK_false, AB.fAdd_int, AB.fAdd_tup, AB.fAdd_lst, AB.fAdd_str, AB.fSub_int, AB.fMul_int, AB.fMul_lst, AB.fDiv_int, AB.fMod_int, AB.fPow_int, AB.fShl_int, AB.fShr_int, AB.fAnd1_int, AB.fCmp_int, AB.fNeg_int, AB.fIs_non, AB.fIsNot_non, AB.fIs_bool, AB.fIsNot_bool, AB.fIx_lst, AB.fIx_tup, AB.fIx_scr, AB.fIx_str, AB.fSl_lst, AB.fSl_tup, AB.fAbs_int, AB.fInt_int, AB.fInt_bool, AB.fMax2_int, AB.fMin2_int, AB.fLen_scr, AB.fLen_lst, AB.fLen_tup, AB.fLen_str, AB.fTupleOf_lst, AB.fTupleOf_tup, AB.fListOf_lst, AB.fListOf_tup, AB.fSum_lst, AB.fSum_tup, AB.fLstRev_lst, AB.fEq_eq, AB.fNe_eq, AB.on2_ss, AB.on1_s, AB.look_dat, AB.eqv_ii, AB.eqv_bb, AB.eqv_ss, AB.shaped_int, AB.shaped_b, AB.shaped_non, AB.isD_int_non, AB.isD_int_bl, AB.isD_int_int, AB.isD_int_str, AB.isD_int_lst, AB.isD_int_tup, AB.isD_bool_non, AB.isD_bool_bl, AB.isD_bool_int, AB.isD_bool_str, AB.isD_bool_lst, AB.isD_bool_tup, AB.isD_list_non, AB.isD_list_bl, AB.isD_list_int, AB.isD_list_str, AB.isD_list_lst, AB.isD_list_tup, AB.isD_tuple_non, AB.isD_tuple_bl, AB.isD_tuple_int, AB.isD_tuple_str, AB.isD_tuple_lst, AB.isD_tuple_tup, AB.isD_str_non, AB.isD_str_bl, AB.isD_str_int, AB.isD_str_str, AB.isD_str_lst, AB.isD_str_tup, List.map_cons, List.map_nil, List.length_cons, List.length_nil, List.replicate_succ, List.replicate_zero, List.cons_append, List.nil_append, List.append_nil, List.set_cons_zero, List.set_cons_succ, List.set_nil, List.getElem?_cons_zero, List.getElem?_cons_succ, List.getElem?_nil, Nat.sub_self, Nat.reduceAdd, Nat.reduceSub, Nat.zero_add, Nat.add_zero, Bool.false_eq_true, if_false, if_true, Bool.not_true, Bool.not_false, reduceIte]
  refine ⟨by decide, n, 20 + w, rfl, hw, ?_⟩
  try simp only [AB.aSeq, AB.aDrop, AB.aRet, AB.aRetN, AB.aRetV, AB.aBrk, AB.aCt, AB.aApp, AB.aAug, AB.aRaise, AB.aPar, AB.aPar3, AB.aAsgT, AB.aNext, AB.aC, AB.aOp2, AB.aUn, AB.aNil, AB.aCons, AB.aCB, AB.aTru, AB.aAndV, AB.aOrV, AB.aNotV, AB.aChain, AB.aNoPart, AB.aPart, AB.aSl, AB.aTup, AB.aLst, AB.aCall, AB.aCallR, AB.aIsi, AB.aLc, AB.aFor, AB.aWhile, AB.aiR1, AB.aiR2, AB.aiR3, AB.aiU, AB.aiU.on1', AB.aiE, AB.agName, AB.agNil, AB.agCons, AB.agTup, AB.aTold, AB.aDrw, AB.aListR1, AB.aListR2, AB.aYes, AB.lookAll, AB.datAll, AB.startS, AB.startR, AB.endA, AB.endR, AB.itemsD, AB.noOwn, AB.wipeS, AB.isNoneD, AB.truD, AB.truOk, Bool.not_true, Bool.not_false, AB.aVar_eq, AB.aFrz_eq, AB.varK_val, AB.varK_lst, AB.varK_drw, AB.frzSK_lst, AB.frzSK_val, AB.look_ali, AB.aliK_lst, AB.frz_eq, AB.frzR_eq, AB.toR_eq, AB.aTB_eq, AB.aAsg_eq, AB.aIfS_eq, AB.aNotT_eq, AB.aAndT_eq, AB.aOrT_eq, AB.aIf_eq, AB.frzK_dat, AB.frzK_new, AB.frzRK_dat, AB.frzRK_new, AB.frzRK_drw, AB.toRK_dat, AB.tbK_bool, AB.asgK_dat, AB.asgK_new, AB.asgK_drw, AB.iteK_true, AB.iteK_false, AB.fAdd_int, AB.fAdd_tup, AB.fAdd_lst, AB.fAdd_str, AB.fSub_int, AB.fMul_int, AB.fMul_lst, AB.fDiv_int, AB.fMod_int, AB.fPow_int, AB.fShl_int, AB.fShr_int, AB.fAnd1_int, AB.fCmp_int, AB.fNeg_int, AB.fIs_non, AB.fIsNot_non, AB.fIs_bool, AB.fIsNot_bool, AB.fIx_lst, AB.fIx_tup, AB.fIx_scr, AB.fIx_str, AB.fSl_lst, AB.fSl_tup, AB.fAbs_int, AB.fInt_int, AB.fInt_bool, AB.fMax2_int, AB.fMin2_int, AB.fLen_scr, AB.fLen_lst, AB.fLen_tup, AB.fLen_str, AB.fTupleOf_lst, AB.fTupleOf_tup, AB.fListOf_lst, AB.fListOf_tup, AB.fSum_lst, AB.fSum_tup, AB.fLstRev_lst, AB.fEq_eq, AB.fNe_eq, AB.on2_ss, AB.on1_s, AB.look_dat, AB.eqv_ii, AB.eqv_bb, AB.eqv_ss, AB.shaped_int, AB.shaped_b, AB.shaped_non, AB.isD_int_non, AB.isD_int_bl, AB.isD_int_int, AB.isD_int_str, AB.isD_int_lst, AB.isD_int_tup, AB.isD_bool_non, AB.isD_bool_bl, AB.isD_bool_int, AB.isD_bool_str, AB.isD_bool_lst, AB.isD_bool_tup, AB.isD_list_non, AB.isD_list_bl, AB.isD_list_int, AB.isD_list_str, AB.isD_list_lst, AB.isD_list_tup, AB.isD_tuple_non, AB.isD_tuple_bl, AB.isD_tuple_int, AB.isD_tuple_str, AB.isD_tuple_lst, AB.isD_tuple_tup, AB.isD_str_non, AB.isD_str_bl, AB.isD_str_int, AB.isD_str_str, AB.isD_str_lst, AB.isD_str_tup, List.map_cons, List.map_nil, List.length_cons, List.length_nil, List.replicate_succ, List.replicate_zero, List.cons_append, List.nil_append, List.append_nil, List.set_cons_zero, List.set_cons_succ, List.set_nil, List.getElem?_cons_zero, List.getElem?_cons_succ, List.getElem?_nil, Nat.sub_self, Nat.reduceAdd, Nat.reduceSub, Nat.zero_add, Nat.add_zero, Bool.false_eq_true, if_false, if_true, Bool.not_true, Bool.not_false, reduceIte]
  rw [Nat.mod_eq_of_lt hn]
  refine ⟨by decide, _, rfl, dep2 (dep_cellsD (n := 2) hw) (dep_int _ _), ?_⟩
  try simp only [AB.aSeq, AB.aDrop, AB.aRet, AB.aRetN, AB.aRetV, AB.aBrk, AB.aCt, AB.aApp, AB.aAug, AB.aRaise, AB.aPar, AB.aPar3, AB.aAsgT, AB.aNext, AB.aC, AB.aOp2, AB.aUn, AB.aNil, AB.aCons, AB.aCB, AB.aTru, AB.aAndV, AB.aOrV, AB.aNotV, AB.aChain, AB.aNoPart, AB.aPart, AB.aSl, AB.aTup, AB.aLst, AB.aCall, AB.aCallR, AB.aIsi, AB.aLc, AB.aFor, AB.aWhile, AB.aiR1, AB.aiR2, AB.aiR3, AB.aiU, AB.aiU.on1', AB.aiE, AB.agName, AB.agNil, AB.agCons, AB.agTup, AB.aTold, AB.aDrw, AB.aListR1, AB.aListR2, AB.aYes, AB.lookAll, AB.datAll, AB.startS, AB.startR, AB.endA, AB.endR, AB.itemsD, AB.noOwn, AB.wipeS, AB.isNoneD, AB.truD, AB.truOk, Bool.not_true, Bool.not_false, AB.aVar_eq, AB.aFrz_eq, AB.varK_val, AB.varK_lst, AB.varK_drw, AB.frzSK_lst, AB.frzSK_val, AB.look_ali, AB.aliK_lst, AB.frz_eq, AB.frzR_eq, AB.toR_eq, AB.aTB_eq, AB.aAsg_eq, AB.aIfS_eq, AB.aNotT_eq, AB.aAndT_eq, AB.aOrT_eq, AB.aIf_eq, AB.frzK_dat, AB.frzK_new, AB.frzRK_dat, AB.frzRK_new, AB.frzRK_drw, AB.toRK_dat, AB.tbK_bool, AB.asgK_dat, AB.asgK_new, AB.asgK_drw, AB.iteK_true, AB.iteK_false, AB.fAdd_int, AB.fAdd_tup, AB.fAdd_lst, AB.fAdd_str, AB.fSub_int, AB.fMul_int, AB.fMul_lst, AB.fDiv_int, AB.fMod_int, AB.fPow_int, AB.fShl_int, AB.fShr_int, AB.fAnd1_int, AB.fCmp_int, AB.fNeg_int, AB.fIs_non, AB.fIsNot_non, AB.fIs_bool, AB.fIsNot_bool, AB.fIx_lst, AB.fIx_tup, AB.fIx_scr, AB.fIx_str, AB.fSl_lst, AB.fSl_tup, AB.fAbs_int, AB.fInt_int, AB.fInt_bool, AB.fMax2_int, AB.fMin2_int, AB.fLen_scr, AB.fLen_lst, AB.fLen_tup, AB.fLen_str, AB.fTupleOf_lst, AB.fTupleOf_tup, AB.fListOf_lst, AB.fListOf_tup, AB.fSum_lst, AB.fSum_tup, AB.fLstRev_lst, AB.fEq_eq, AB.fNe_eq, AB.on2_ss, AB.on1_s, AB.look_dat, AB.eqv_ii, AB.eqv_bb, AB.eqv_ss, AB.shaped_int, AB.shaped_b, AB.shaped_non, AB.isD_int_non, AB.isD_int_bl, AB.isD_int_int, AB.isD_int_str, AB.isD_int_lst, AB.isD_int_tup, AB.isD_bool_non, AB.isD_bool_bl, AB.isD_bool_int, AB.isD_bool_str, AB.isD_bool_lst, AB.isD_bool_tup, AB.isD_list_non, AB.isD_list_bl, AB.isD_list_int, AB.isD_list_str, AB.isD_list_lst, AB.isD_list_tup, AB.isD_tuple_non, AB.isD_tuple_bl, AB.isD_tuple_int, AB.isD_tuple_str, AB.isD_tuple_lst, AB.isD_tuple_tup, AB.isD_str_non, AB.isD_str_bl, AB.isD_str_int, AB.isD_str_str, AB.isD_str_lst, AB.isD_str_tup, List.map_cons, List.map_nil, List.length_cons, List.length_nil, List.replicate_succ, List.replicate_zero, List.cons_append, List.nil_append, List.append_nil, List.set_cons_zero, List.set_cons_succ, List.set_nil, List.getElem?_cons_zero, List.getElem?_cons_succ, List.getElem?_nil, Nat.sub_self, Nat.reduceAdd, Nat.reduceSub, Nat.zero_add, Nat.add_zero, Bool.false_eq_true, if_false, if_true, Bool.not_true, Bool.not_false, reduceIte]
  exact hA _ _
theorem says_ge {a b : Int} (h : b ≤ a) : decide (b ≤ a) = true := decide_eq_true h
theorem law_r8 (A : AD) (l : Addr) (bs : List Bool) (hb : bs.length ≤ 100) (s0 s4 s5 s6 s7 s8 s10 s11 s12 s13 : SV)
    (hA : ∀ s10 s11, A.nx [s0, .drw l, .val (.int bs.length), .val (.int (cnt bs : Nat)), s4, s5, s6, s7, s8, .val (.int (chI bs.length (cnt bs : Nat) : Nat)), s10, s11, s12, s13]) :
    a_law_r8 A [s0, .drw l, .val (.int bs.length), .val (.int (cnt bs : Nat)), s4, s5, s6, s7, s8, .val (.int (chI bs.length (cnt bs : Nat) : Nat)), s10, s11, s12, s13] := by
  have hbf : bf (chI bs.length (cnt bs : Nat)) ≤ 110 := Nat.le_trans (bf_le (chI_le _ _)) (by omega)
  have hp := pow_bf (chI bs.length (cnt bs : Nat))
  simp only [a_law_r8, AB.aSeq, AB.aDrop, AB.aRet, AB.aRetN, AB.aRetV, AB.aBrk, AB.aCt, AB.aApp, AB.aAug, AB.aRaise, AB.aPar, AB.aPar3, AB.aAsgT, AB.aNext, AB.aC, AB.aOp2, AB.aUn, AB.aNil, AB.aCons, AB.aCB, AB.aTru, AB.aAndV, AB.aOrV, AB.aNotV, AB.aChain, AB.aNoPart, AB.aPart, AB.aSl, AB.aTup, AB.aLst, AB.aCall, AB.aCallR, AB.aIsi, AB.aLc, AB.aFor, AB.aWhile, AB.aiR1, AB.aiR2, AB.aiR3, AB.aiU, AB.aiU.on1', AB.aiE, AB.agName, AB.agNil, AB.agCons, AB.agTup, AB.aTold, AB.aDrw, AB.aListR1, AB.aListR2, AB.aYes, AB.lookAll, AB.datAll, AB.startS, AB.startR, AB.endA, AB.endR, AB.itemsD, AB.noOwn, AB.wipeS, AB.isNoneD, AB.truD, AB.truOk, Bool.not_true, Bool.not_false, AB.aVar_eq, AB.aFrz_eq, AB.varK_val, AB.varK_lst, AB.varK_drw, AB.frzSK_lst, AB.frzSK_val, AB.look_ali, AB.aliK_lst, AB.frz_eq, AB.frzR_eq, AB.toR_eq, AB.aTB_eq, AB.aAsg_eq, AB.aIfS_eq, AB.aNotT_eq, AB.aAndT_eq, AB.aOrT_eq, AB.aIf_eq, AB.frzK_dat, AB.frzK_new, AB.frzRK_dat, AB.frzRK_new, AB.frzRK_drw, AB.toRK_dat, AB.tbK_bool, AB.asgK_dat, AB.asgK_new, AB.asgK_drw, AB.iteK_true, AB.iteK_false, AB.fAdd_int, AB.fAdd_tup, AB.fAdd_lst, AB.fAdd_str, AB.fSub_int, AB.fMul_int, AB.fMul_lst, AB.fDiv_int, AB.fMod_int, AB.fPow_int, AB.fShl_int, AB.fShr_int, AB.fAnd1_int, AB.fCmp_int, AB.fNeg_int, AB.fIs_non, AB.fIsNot_non, AB.fIs_bool, AB.fIsNot_bool, AB.fIx_lst, AB.fIx_tup, AB.fIx_scr, AB.fIx_str, AB.fSl_lst, AB.fSl_tup, AB.fAbs_int, AB.fInt_int, AB.fInt_bool, AB.fMax2_int, AB.fMin2_int, AB.fLen_scr, AB.fLen_lst, AB.fLen_tup, AB.fLen_str, AB.fTupleOf_lst, AB.fTupleOf_tup, AB.fListOf_lst, AB.fListOf_tup, AB.fSum_lst, AB.fSum_tup, AB.fLstRev_lst, AB.fEq_eq, AB.fNe_eq, AB.on2_ss, AB.on1_s, AB.look_dat, AB.eqv_ii, AB.eqv_bb, AB.eqv_ss, AB.shaped_int, AB.shaped_b, AB.shaped_non, AB.isD_int_non, AB.isD_int_bl, AB.isD_int_int, AB.isD_int_str, AB.isD_int_lst, AB.isD_int_tup, AB.isD_bool_non, AB.isD_bool_bl, AB.isD_bool_int, AB.isD_bool_str, AB.isD_bool_lst, AB.isD_bool_tup, AB.isD_list_non, AB.isD_list_bl, AB.isD_list_int, AB.isD_list_str, AB.isD_list_lst, AB.isD_list_tup, AB.isD_tuple_non, AB.isD_tuple_bl, AB.isD_tuple_int, AB.isD_tuple_str, AB.isD_tuple_lst, AB.isD_tuple_tup, AB.isD_str_non, AB.isD_str_bl, AB.isD_str_int, AB.isD_str_str, AB.isD_str_lst, AB.isD_str_tup, List.map_cons, List.map_nil, List.length_cons, List.length_nil, List.replicate_succ, List.replicate_zero, List.cons_append, List.nil_append, List.append_nil, List.set_cons_zero, List.set_cons_succ, List.set_nil, List.getElem?_cons_zero, List.getElem?_cons_succ, List.getElem?_nil, Nat.sub_self, Nat.reduceAdd, Nat.reduceSub, Nat.zero_add, Nat.add_zero, Bool.false_eq_true, if_false, if_true, Bool.not_true, Bool.not_false, reduceIte]
  refine ⟨bs.length, (cnt bs : Nat), rfl, by omega, ?_⟩
  try simp only [AB.aSeq, AB.aDrop, AB.aRet, AB.aRetN, AB.aRetV, AB.aBrk, AB.aCt, AB.aApp, AB.aAug, AB.aRaise, AB.aPar, AB.aPar3, AB.aAsgT, AB.aNext, AB.aC, AB.aOp2, AB.aUn, AB.aNil, AB.aCons, AB.aCB, AB.aTru, AB.aAndV, AB.aOrV, AB.aNotV, AB.aChain, AB.aNoPart, AB.aPart, AB.aSl, AB.aTup, AB.aLst, AB.aCall, AB.aCallR, AB.aIsi, AB.aLc, AB.aFor, AB.aWhile, AB.aiR1, AB.aiR2, AB.aiR3, AB.aiU, AB.aiU.on1', AB.aiE, AB.agName, AB.agNil, AB.agCons, AB.agTup, AB.aTold, AB.aDrw, AB.aListR1, AB.aListR2, AB.aYes, AB.lookAll, AB.datAll, AB.startS, AB.startR, AB.endA, AB.endR, AB.itemsD, AB.noOwn, AB.wipeS, AB.isNoneD, AB.truD, AB.truOk, Bool.not_true, Bool.not_false, AB.aVar_eq, AB.aFrz_eq, AB.varK_val, AB.varK_lst, AB.varK_drw, AB.frzSK_lst, AB.frzSK_val, AB.look_ali, AB.aliK_lst, AB.frz_eq, AB.frzR_eq, AB.toR_eq, AB.aTB_eq, AB.aAsg_eq, AB.aIfS_eq, AB.aNotT_eq, AB.aAndT_eq, AB.aOrT_eq, AB.aIf_eq, AB.frzK_dat, AB.frzK_new, AB.frzRK_dat, AB.frzRK_new, AB.frzRK_drw, AB.toRK_dat, AB.tbK_bool, AB.asgK_dat, AB.asgK_new, AB.asgK_drw, AB.iteK_true, AB.iteK_false, AB.fAdd_int, AB.fAdd_tup, AB.fAdd_lst, AB.fAdd_str, AB.fSub_int, AB.fMul_int, AB.fMul_lst, AB.fDiv_int, AB.fMod_int, AB.fPow_int, AB.fShl_int, AB.fShr_int, AB.fAnd1_int, AB.fCmp_int, AB.fNeg_int, AB.fIs_non, AB.fIsNot_non, AB.fIs_bool, AB.fIsNot_bool, AB.fIx_lst, AB.fIx_tup, AB.fIx_scr, AB.fIx_str, AB.fSl_lst, AB.fSl_tup, AB.fAbs_int, AB.fInt_int, AB.fInt_bool, AB.fMax2_int, AB.fMin2_int, AB.fLen_scr, AB.fLen_lst, AB.fLen_tup, AB.fLen_str, AB.fTupleOf_lst, AB.fTupleOf_tup, AB.fListOf_lst, AB.fListOf_tup, AB.fSum_lst, AB.fSum_tup, AB.fLstRev_lst, AB.fEq_eq, AB.fNe_eq, AB.on2_ss, AB.on1_s, AB.look_dat, AB.eqv_ii, AB.eqv_bb, AB.eqv_ss, AB.shaped_int, AB.shaped_b, AB.shaped_non, AB.isD_int_non, AB.isD_int_bl, AB.isD_int_int, AB.isD_int_str, AB.isD_int_lst, AB.isD_int_tup, AB.isD_bool_non, AB.isD_bool_bl, AB.isD_bool_int, AB.isD_bool_str, AB.isD_bool_lst, AB.isD_bool_tup, AB.isD_list_non, AB.isD_list_bl, AB.isD_list_int, AB.isD_list_str, AB.isD_list_lst, AB.isD_list_tup, AB.isD_tuple_non, AB.isD_tuple_bl, AB.isD_tuple_int, AB.isD_tuple_str, AB.isD_tuple_lst, AB.isD_tuple_tup, AB.isD_str_non, AB.isD_str_bl, AB.isD_str_int, AB.isD_str_str, AB.isD_str_lst, AB.isD_str_tup, List.map_cons, List.map_nil, List.length_cons, List.length_nil, List.replicate_succ, List.replicate_zero, List.cons_append, List.nil_append, List.append_nil, List.set_cons_zero, List.set_cons_succ, List.set_nil, List.getElem?_cons_zero, List.getElem?_cons_succ, List.getElem?_nil, Nat.sub_self, Nat.reduceAdd, Nat.reduceSub, Nat.zero_add, Nat.add_zero, Bool.false_eq_true, if_false, if_true, Bool.not_true, Bool.not_false, reduceIte]
  refine ⟨_, rfl, hbf, ?_⟩
  try simp only [AB.aSeq, AB.aDrop, AB.aRet, AB.aRetN, AB.aRetV, AB.aBrk, AB.aCt, AB.aApp, AB.aAug, AB.aRaise, AB.aPar, AB.aPar3, AB.aAsgT, AB.aNext, AB.aC, AB.aOp2, AB.aUn, AB.aNil, AB.aCons, AB.aCB, AB.aTru, AB.aAndV, AB.aOrV, AB.aNotV, AB.aChain, AB.aNoPart, AB.aPart, AB.aSl, AB.aTup, AB.aLst, AB.aCall, AB.aCallR, AB.aIsi, AB.aLc, AB.aFor, AB.aWhile, AB.aiR1, AB.aiR2, AB.aiR3, AB.aiU, AB.aiU.on1', AB.aiE, AB.agName, AB.agNil, AB.agCons, AB.agTup, AB.aTold, AB.aDrw, AB.aListR1, AB.aListR2, AB.aYes, AB.lookAll, AB.datAll, AB.startS, AB.startR, AB.endA, AB.endR, AB.itemsD, AB.noOwn, AB.wipeS, AB.isNoneD, AB.truD, AB.truOk, Bool.not_true, Bool.not_false, AB.aVar_eq, AB.aFrz_eq, AB.varK_val, AB.varK_lst, AB.varK_drw, AB.frzSK_lst, AB.frzSK_val, AB.look_ali, AB.aliK_lst, AB.frz_eq, AB.frzR_eq, AB.toR_eq, AB.aTB_eq, AB.aAsg_eq, AB.aIfS_eq, AB.aNotT_eq, AB.aAndT_eq, AB.aOrT_eq, AB.aIf_eq, AB.frzK_dat, AB.frzK_new, AB.frzRK_dat, AB.frzRK_new, AB.frzRK_drw, AB.toRK_dat, AB.tbK_bool, AB.asgK_dat, AB.asgK_new, AB.asgK_drw, AB.iteK_true, AB.iteK_false, AB.fAdd_int, AB.fAdd_tup, AB.fAdd_lst, AB.fAdd_str, AB.fSub_int, AB.fMul_int, AB.fMul_lst, AB.fDiv_int, AB.fMod_int, AB.fPow_int, AB.fShl_int, AB.fShr_int, AB.fAnd1_int, AB.fCmp_int, AB.fNeg_int, AB.fIs_non, AB.fIsNot_non, AB.fIs_bool, AB.fIsNot_bool, AB.fIx_lst, AB.fIx_tup, AB.fIx_scr, AB.fIx_str, AB.fSl_lst, AB.fSl_tup, AB.fAbs_int, AB.fInt_int, AB.fInt_bool, AB.fMax2_int, AB.fMin2_int, AB.fLen_scr, AB.fLen_lst, AB.fLen_tup, AB.fLen_str, AB.fTupleOf_lst, AB.fTupleOf_tup, AB.fListOf_lst, AB.fListOf_tup, AB.fSum_lst, AB.fSum_tup, AB.fLstRev_lst, AB.fEq_eq, AB.fNe_eq, AB.on2_ss, AB.on1_s, AB.look_dat, AB.eqv_ii, AB.eqv_bb, AB.eqv_ss, AB.shaped_int, AB.shaped_b, AB.shaped_non, AB.isD_int_non, AB.isD_int_bl, AB.isD_int_int, AB.isD_int_str, AB.isD_int_lst, AB.isD_int_tup, AB.isD_bool_non, AB.isD_bool_bl, AB.isD_bool_int, AB.isD_bool_str, AB.isD_bool_lst, AB.isD_bool_tup, AB.isD_list_non, AB.isD_list_bl, AB.isD_list_int, AB.isD_list_str, AB.isD_list_lst, AB.isD_list_tup, AB.isD_tuple_non, AB.isD_tuple_bl, AB.isD_tuple_int, AB.isD_tuple_str, AB.isD_tuple_lst, AB.isD_tuple_tup, AB.isD_str_non, AB.isD_str_bl, AB.isD_str_int, AB.isD_str_str, AB.isD_str_lst, AB.isD_str_tup, List.map_cons, List.map_nil, List.length_cons, List.length_nil, List.replicate_succ, List.replicate_zero, List.cons_append, List.nil_append, List.append_nil, List.set_cons_zero, List.set_cons_succ, List.set_nil, List.getElem?_cons_zero, List.getElem?_cons_succ, List.getElem?_nil, Nat.sub_self, Nat.reduceAdd, Nat.reduceSub, Nat.zero_add, Nat.add_zero, Bool.false_eq_true, if_false, if_true, Bool.not_true, Bool.not_false, reduceIte]
  refine ⟨_, rfl, dep_int _ _, ?_⟩
  try simp only [AB.aSeq, AB.aDrop, AB.aRet, AB.aRetN, AB.aRetV, AB.aBrk, AB.aCt, AB.aApp, AB.aAug, AB.aRaise, AB.aPar, AB.aPar3, AB.aAsgT, AB.aNext, AB.aC, AB.aOp2, AB.aUn, AB.aNil, AB.aCons, AB.aCB, AB.aTru, AB.aAndV, AB.aOrV, AB.aNotV, AB.aChain, AB.aNoPart, AB.aPart, AB.aSl, AB.aTup, AB.aLst, AB.aCall, AB.aCallR, AB.aIsi, AB.aLc, AB.aFor, AB.aWhile, AB.aiR1, AB.aiR2, AB.aiR3, AB.aiU, AB.aiU.on1', AB.aiE, AB.agName, AB.agNil, AB.agCons, AB.agTup, AB.aTold, AB.aDrw, AB.aListR1, AB.aListR2, AB.aYes, AB.lookAll, AB.datAll, AB.startS, AB.startR, AB.endA, AB.endR, AB.itemsD, AB.noOwn, AB.wipeS, AB.isNoneD, AB.truD, AB.truOk, Bool.not_true, Bool.not_false, AB.aVar_eq, AB.aFrz_eq, AB.varK_val, AB.varK_lst, AB.varK_drw, AB.frzSK_lst, AB.frzSK_val, AB.look_ali, AB.aliK_lst, AB.frz_eq, AB.frzR_eq, AB.toR_eq, AB.aTB_eq, AB.aAsg_eq, AB.aIfS_eq, AB.aNotT_eq, AB.aAndT_eq, AB.aOrT_eq, AB.aIf_eq, AB.frzK_dat, AB.frzK_new, AB.frzRK_dat, AB.frzRK_new, AB.frzRK_drw, AB.toRK_dat, AB.tbK_bool, AB.asgK_dat, AB.asgK_new, AB.asgK_drw, AB.iteK_true, AB.iteK_false, AB.fAdd_int, AB.fAdd_tup, AB.fAdd_lst, AB.fAdd_str, AB.fSub_int, AB.fMul_int, AB.fMul_lst, AB.fDiv_int, AB.fMod_int, AB.fPow_int, AB.fShl_int, AB.fShr_int, AB.fAnd1_int, AB.fCmp_int, AB.fNeg_int, AB.fIs_non, AB.fIsNot_non, AB.fIs_bool, AB.fIsNot_bool, AB.fIx_lst, AB.fIx_tup, AB.fIx_scr, AB.fIx_str, AB.fSl_lst, AB.fSl_tup, AB.fAbs_int, AB.fInt_int, AB.fInt_bool, AB.fMax2_int, AB.fMin2_int, AB.fLen_scr, AB.fLen_lst, AB.fLen_tup, AB.fLen_str, AB.fTupleOf_lst, AB.fTupleOf_tup, AB.fListOf_lst, AB.fListOf_tup, AB.fSum_lst, AB.fSum_tup, AB.fLstRev_lst, AB.fEq_eq, AB.fNe_eq, AB.on2_ss, AB.on1_s, AB.look_dat, AB.eqv_ii, AB.eqv_bb, AB.eqv_ss, AB.shaped_int, AB.shaped_b, AB.shaped_non, AB.isD_int_non, AB.isD_int_bl, AB.isD_int_int, AB.isD_int_str, AB.isD_int_lst, AB.isD_int_tup, AB.isD_bool_non, AB.isD_bool_bl, AB.isD_bool_int, AB.isD_bool_str, AB.isD_bool_lst, AB.isD_bool_tup, AB.isD_list_non, AB.isD_list_bl, AB.isD_list_int, AB.isD_list_str, AB.isD_list_lst, AB.isD_list_tup, AB.isD_tuple_non, AB.isD_tuple_bl, AB.isD_tuple_int, AB.isD_tuple_str, AB.isD_tuple_lst, AB.isD_tuple_tup, AB.isD_str_non, AB.isD_str_bl, AB.isD_str_int, AB.isD_str_str, AB.isD_str_lst, AB.isD_str_tup, List.map_cons, List.map_nil, List.length_cons, List.length_nil, List.replicate_succ, List.replicate_zero, List.cons_append, List.nil_append, List.append_nil, List.set_cons_zero, List.set_cons_succ, List.set_nil, List.getElem?_cons_zero, List.getElem?_cons_succ, List.getElem?_nil, Nat.sub_self, Nat.reduceAdd, Nat.reduceSub, Nat.zero_add, Nat.add_zero, Bool.false_eq_true, if_false, if_true, Bool.not_true, Bool.not_false, reduceIte]
  refine ⟨bs.length, (cnt bs : Nat), rfl, by omega, ?_⟩
  try simp only [AB.aSeq, AB.aDrop, AB.aRet, AB.aRetN, AB.aRetV, AB.aBrk, AB.aCt, AB.aApp, AB.aAug, AB.aRaise, AB.aPar, AB.aPar3, AB.aAsgT, AB.aNext, AB.aC, AB.aOp2, AB.aUn, AB.aNil, AB.aCons, AB.aCB, AB.aTru, AB.aAndV, AB.aOrV, AB.aNotV, AB.aChain, AB.aNoPart, AB.aPart, AB.aSl, AB.aTup, AB.aLst, AB.aCall, AB.aCallR, AB.aIsi, AB.aLc, AB.aFor, AB.aWhile, AB.aiR1, AB.aiR2, AB.aiR3, AB.aiU, AB.aiU.on1', AB.aiE, AB.agName, AB.agNil, AB.agCons, AB.agTup, AB.aTold, AB.aDrw, AB.aListR1, AB.aListR2, AB.aYes, AB.lookAll, AB.datAll, AB.startS, AB.startR, AB.endA, AB.endR, AB.itemsD, AB.noOwn, AB.wipeS, AB.isNoneD, AB.truD, AB.truOk, Bool.not_true, Bool.not_false, AB.aVar_eq, AB.aFrz_eq, AB.varK_val, AB.varK_lst, AB.varK_drw, AB.frzSK_lst, AB.frzSK_val, AB.look_ali, AB.aliK_lst, AB.frz_eq, AB.frzR_eq, AB.toR_eq, AB.aTB_eq, AB.aAsg_eq, AB.aIfS_eq, AB.aNotT_eq, AB.aAndT_eq, AB.aOrT_eq, AB.aIf_eq, AB.frzK_dat, AB.frzK_new, AB.frzRK_dat, AB.frzRK_new, AB.frzRK_drw, AB.toRK_dat, AB.tbK_bool, AB.asgK_dat, AB.asgK_new, AB.asgK_drw, AB.iteK_true, AB.iteK_false, AB.fAdd_int, AB.fAdd_tup, AB.fAdd_lst, AB.fAdd_str, AB.fSub_int, AB.fMul_int, AB.fMul_lst, AB.fDiv_int, AB.fMod_int, AB.fPow_int, AB.fShl_int, AB.fShr_int, AB.fAnd1_int, AB.fCmp_int, AB.fNeg_int, AB.fIs_non, AB.fIsNot_non, AB.fIs_bool, AB.fIsNot_bool, AB.fIx_lst, AB.fIx_tup, AB.fIx_scr, AB.fIx_str, AB.fSl_lst, AB.fSl_tup, AB.fAbs_int, AB.fInt_int, AB.fInt_bool, AB.fMax2_int, AB.fMin2_int, AB.fLen_scr, AB.fLen_lst, AB.fLen_tup, AB.fLen_str, AB.fTupleOf_lst, AB.fTupleOf_tup, AB.fListOf_lst, AB.fListOf_tup, AB.fSum_lst, AB.fSum_tup, AB.fLstRev_lst, AB.fEq_eq, AB.fNe_eq, AB.on2_ss, AB.on1_s, AB.look_dat, AB.eqv_ii, AB.eqv_bb, AB.eqv_ss, AB.shaped_int, AB.shaped_b, AB.shaped_non, AB.isD_int_non, AB.isD_int_bl, AB.isD_int_int, AB.isD_int_str, AB.isD_int_lst, AB.isD_int_tup, AB.isD_bool_non, AB.isD_bool_bl, AB.isD_bool_int, AB.isD_bool_str, AB.isD_bool_lst, AB.isD_bool_tup, AB.isD_list_non, AB.isD_list_bl, AB.isD_list_int, AB.isD_list_str, AB.isD_list_lst, AB.isD_list_tup, AB.isD_tuple_non, AB.isD_tuple_bl, AB.isD_tuple_int, AB.isD_tuple_str, AB.isD_tuple_lst, AB.isD_tuple_tup, AB.isD_str_non, AB.isD_str_bl, AB.isD_str_int, AB.isD_str_str, AB.isD_str_lst, AB.isD_str_tup, List.map_cons, List.map_nil, List.length_cons, List.length_nil, List.replicate_succ, List.replicate_zero, List.cons_append, List.nil_append, List.append_nil, List.set_cons_zero, List.set_cons_succ, List.set_nil, List.getElem?_cons_zero, List.getElem?_cons_succ, List.getElem?_nil, Nat.sub_self, Nat.reduceAdd, Nat.reduceSub, Nat.zero_add, Nat.add_zero, Bool.false_eq_true, if_false, if_true, Bool.not_true, Bool.not_false, reduceIte]
  refine ⟨shl_ok (by omega), ?_⟩
  rw [one_pow, decide_eq_true (Int.ofNat_le.mpr hp)]
  refine ⟨true, rfl, ?_⟩
  try simp only [AB.aSeq, AB.aDrop, AB.aRet, AB.aRetN, AB.aRetV, AB.aBrk, AB.aCt, AB.aApp, AB.aAug, AB.aRaise, AB.aPar, AB.aPar3, AB.aAsgT, AB.aNext, AB.aC, AB.aOp2, AB.aUn, AB.aNil, AB.aCons, AB.aCB, AB.aTru, AB.aAndV, AB.aOrV, AB.aNotV, AB.aChain, AB.aNoPart, AB.aPart, AB.aSl, AB.aTup, AB.aLst, AB.aCall, AB.aCallR, AB.aIsi, AB.aLc, AB.aFor, AB.aWhile, AB.aiR1, AB.aiR2, AB.aiR3, AB.aiU, AB.aiU.on1', AB.aiE, AB.agName, AB.agNil, AB.agCons, AB.agTup, AB.aTold, AB.aDrw, AB.aListR1, AB.aListR2, AB.aYes, AB.lookAll, AB.datAll, AB.startS, AB.startR, AB.endA, AB.endR, AB.itemsD, AB.noOwn, AB.wipeS, AB.isNoneD, AB.truD, AB.truOk, Bool.not_true, Bool.not_false, AB.aVar_eq, AB.aFrz_eq, AB.varK_val, AB.varK_lst, AB.varK_drw, AB.frzSK_lst, AB.frzSK_val, AB.look_ali, AB.aliK_lst, AB.frz_eq, AB.frzR_eq, AB.toR_eq, AB.aTB_eq, AB.aAsg_eq, AB.aIfS_eq, AB.aNotT_eq, AB.aAndT_eq, AB.aOrT_eq, AB.aIf_eq, AB.frzK_dat, AB.frzK_new, AB.frzRK_dat, AB.frzRK_new, AB.frzRK_drw, AB.toRK_dat, AB.tbK_bool, AB.asgK_dat, AB.asgK_new, AB.asgK_drw, AB.iteK_true, AB.iteK_false, AB.fAdd_int, AB.fAdd_tup, AB.fAdd_lst, AB.fAdd_str, AB.fSub_int, AB.fMul_int, AB.fMul_lst, AB.fDiv_int, AB.fMod_int, AB.fPow_int, AB.fShl_int, AB.fShr_int, AB.fAnd1_int, AB.fCmp_int, AB.fNeg_int, AB.fIs_non, AB.fIsNot_non, AB.fIs_bool, AB.fIsNot_bool, AB.fIx_lst, AB.fIx_tup, AB.fIx_scr, AB.fIx_str, AB.fSl_lst, AB.fSl_tup, AB.fAbs_int, AB.fInt_int, AB.fInt_bool, AB.fMax2_int, AB.fMin2_int, AB.fLen_scr, AB.fLen_lst, AB.fLen_tup, AB.fLen_str, AB.fTupleOf_lst, AB.fTupleOf_tup, AB.fListOf_lst, AB.fListOf_tup, AB.fSum_lst, AB.fSum_tup, AB.fLstRev_lst, AB.fEq_eq, AB.fNe_eq, AB.on2_ss, AB.on1_s, AB.look_dat, AB.eqv_ii, AB.eqv_bb, AB.eqv_ss, AB.shaped_int, AB.shaped_b, AB.shaped_non, AB.isD_int_non, AB.isD_int_bl, AB.isD_int_int, AB.isD_int_str, AB.isD_int_lst, AB.isD_int_tup, AB.isD_bool_non, AB.isD_bool_bl, AB.isD_bool_int, AB.isD_bool_str, AB.isD_bool_lst, AB.isD_bool_tup, AB.isD_list_non, AB.isD_list_bl, AB.isD_list_int, AB.isD_list_str, AB.isD_list_lst, AB.isD_list_tup, AB.isD_tuple_non, AB.isD_tuple_bl, AB.isD_tuple_int, AB.isD_tuple_str, AB.isD_tuple_lst, AB.isD_tuple_tup, AB.isD_str_non, AB.isD_str_bl, AB.isD_str_int, AB.isD_str_str, AB.isD_str_lst, AB.isD_str_tup, List.map_cons, List.map_nil, List.length_cons, List.length_nil, List.replicate_succ, List.replicate_zero, List.cons_append, List.nil_append, List.append_nil, List.set_cons_zero, List.set_cons_succ, List.set_nil, List.getElem?_cons_zero, List.getElem?_cons_succ, List.getElem?_nil, Nat.sub_self, Nat.reduceAdd, Nat.reduceSub, Nat.zero_add, Nat.add_zero, Bool.false_eq_true, if_false, if_true, Bool.not_true, Bool.not_false, reduceIte]
  exact law_r7 A l _ _ _ _ _ _ _ _ _ _ _ _ _ hA
theorem law_9 (A : AD) (l : Addr) (t : Int) (ht : -(2 ^ 64) < t) (ht2 : t < 2 ^ 64) (s0 s2 s3 s4 s5 s7 s8 s9 s10 s11 s12 s13 : SV) (h5 : noOwnB s5 = true)
    (hA : ∀ s2 s3 s7 s8 s9 s10 s11, noOwnB s9 = true → A.nx [s0, .drw l, s2, s3, s4, s5, .val (.int t), s7, s8, s9, s10, s11, s12, s13]) :
    a_law_9 A [s0, .drw l, s2, s3, s4, s5, .val (.int t), s7, s8, s9, s10, s11, s12, s13] := by
  simp only [a_law_9, AB.aSeq, AB.aDrop, AB.aRet, AB.aRetN, AB.aRetV, AB.aBrk, AB.aCt, AB.aApp, AB.aAug, AB.aRaise, AB.aPar, AB.aPar3, AB.aAsgT, AB.aNext, AB.aC, AB.aOp2, AB.aUn, AB.aNil, AB.aCons, AB.aCB, AB.aTru, AB.aAndV, AB.aOrV, AB.aNotV, AB.aChain, AB.aNoPart, AB.aPart, AB.aSl, AB.aTup, AB.aLst, AB.aCall, AB.aCallR, AB.aIsi, AB.aLc, AB.aFor, AB.aWhile, AB.aiR1, AB.aiR2, AB.aiR3, AB.aiU, AB.aiU.on1', AB.aiE, AB.agName, AB.agNil, AB.agCons, AB.agTup, AB.aTold, AB.aDrw, AB.aListR1, AB.aListR2, AB.aYes, AB.lookAll, AB.datAll, AB.startS, AB.startR, AB.endA, AB.endR, AB.itemsD, AB.noOwn, AB.wipeS, AB.isNoneD, AB.truD, AB.truOk, Bool.not_true, Bool.not_false, AB.aVar_eq, AB.aFrz_eq, AB.varK_val, AB.varK_lst, AB.varK_drw, AB.frzSK_lst, AB.frzSK_val, AB.look_ali, AB.aliK_lst, AB.frz_eq, AB.frzR_eq, AB.toR_eq, AB.aTB_eq, AB.aAsg_eq, AB.aIfS_eq, AB.aNotT_eq, AB.aAndT_eq, AB.aOrT_eq, AB.aIf_eq, AB.frzK_dat, AB.frzK_new, AB.frzRK_dat, AB.frzRK_new, AB.frzRK_drw, AB.toRK_dat, AB.tbK_bool, AB.asgK_dat, AB.asgK_new, AB.asgK_drw, AB.iteK_true, AB.iteK_false, AB.fAdd_int, AB.fAdd_tup, AB.fAdd_lst, AB.fAdd_str, AB.fSub_int, AB.fMul_int, AB.fMul_lst, AB.fDiv_int, AB.fMod_int, AB.fPow_int, AB.fShl_int, AB.fShr_int, AB.fAnd1_int, AB.fCmp_int, AB.fNeg_int, AB.fIs_non, AB.fIsNot_non, AB.fIs_bool, AB.fIsNot_bool, AB.fIx_lst, AB.fIx_tup, AB.fIx_scr, AB.fIx_str, AB.fSl_lst, AB.fSl_tup, AB.fAbs_int, AB.fInt_int, AB.fInt_bool, AB.fMax2_int, AB.fMin2_int, AB.fLen_scr, AB.fLen_lst, AB.fLen_tup, AB.fLen_str, AB.fTupleOf_lst, AB.fTupleOf_tup, AB.fListOf_lst, AB.fListOf_tup, AB.fSum_lst, AB.fSum_tup, AB.fLstRev_lst, AB.fEq_eq, AB.fNe_eq, AB.on2_ss, AB.on1_s, AB.look_dat, AB.eqv_ii, AB.eqv_bb, AB.eqv_ss, AB.shaped_int, AB.shaped_b, AB.shaped_non, AB.isD_int_non, AB.isD_int_bl, AB.isD_int_int, AB.isD_int_str, AB.isD_int_lst, AB.isD_int_tup, AB.isD_bool_non, AB.isD_bool_bl, AB.isD_bool_int, AB.isD_bool_str, AB.isD_bool_lst, AB.isD_bool_tup, AB.isD_list_non, AB.isD_list_bl, AB.isD_list_int, AB.isD_list_str, AB.isD_list_lst, AB.isD_list_tup, AB.isD_tuple_non, AB.isD_tuple_bl, AB.isD_tuple_int, AB.isD_tuple_str, AB.isD_tuple_lst, AB.isD_tuple_tup, AB.isD_str_non, AB.isD_str_bl, AB.isD_str_int, AB.isD_str_str, AB.isD_str_lst, AB.isD_str_tup, List.map_cons, List.map_nil, List.length_cons, List.length_nil, List.replicate_succ, List.replicate_zero, List.cons_append, List.nil_append, List.append_nil, List.set_cons_zero, List.set_cons_succ, List.set_nil, List.getElem?_cons_zero, List.getElem?_cons_succ, List.getElem?_nil, Nat.sub_self, Nat.reduceAdd, Nat.reduceSub, Nat.zero_add, Nat.add_zero, Bool.false_eq_true, if_false, if_true, Bool.not_true, Bool.not_false, reduceIte]
  refine ⟨_, rfl, by decide, fun r r0 r1 => ?_⟩
  obtain ⟨n, rfl⟩ := nat_of r0
  try simp only [AB.aSeq, AB.aDrop, AB.aRet, AB.aRetN, AB.aRetV, AB.aBrk, AB.aCt, AB.aApp, AB.aAug, AB.aRaise, AB.aPar, AB.aPar3, AB.aAsgT, AB.aNext, AB.aC, AB.aOp2, AB.aUn, AB.aNil, AB.aCons, AB.aCB, AB.aTru, AB.aAndV, AB.aOrV, AB.aNotV, AB.aChain, AB.aNoPart, AB.aPart, AB.aSl, AB.aTup, AB.aLst, AB.aCall, AB.aCallR, AB.aIsi, AB.aLc, AB.aFor, AB.aWhile, AB.aiR1, AB.aiR2, AB.aiR3, AB.aiU, AB.aiU.on1', AB.aiE, AB.agName, AB.agNil, AB.agCons, AB.agTup, AB.aTold, AB.aDrw, AB.aListR1, AB.aListR2, AB.aYes, AB.lookAll, AB.datAll, AB.startS, AB.startR, AB.endA, AB.endR, AB.itemsD, AB.noOwn, AB.wipeS, AB.isNoneD, AB.truD, AB.truOk, Bool.not_true, Bool.not_false, AB.aVar_eq, AB.aFrz_eq, AB.varK_val, AB.varK_lst, AB.varK_drw, AB.frzSK_lst, AB.frzSK_val, AB.look_ali, AB.aliK_lst, AB.frz_eq, AB.frzR_eq, AB.toR_eq, AB.aTB_eq, AB.aAsg_eq, AB.aIfS_eq, AB.aNotT_eq, AB.aAndT_eq, AB.aOrT_eq, AB.aIf_eq, AB.frzK_dat, AB.frzK_new, AB.frzRK_dat, AB.frzRK_new, AB.frzRK_drw, AB.toRK_dat, AB.tbK_bool, AB.asgK_dat, AB.asgK_new, AB.asgK_drw, AB.iteK_true, AB.iteK_false, AB.fAdd_int, AB.fAdd_tup, AB.fAdd_lst, AB.fAdd_str, AB.fSub_int, AB.fMul_int, AB.fMul_lst, AB.fDiv_int, AB.fMod_int, AB.fPow_int, AB.fShl_int, AB.fShr_int, AB.fAnd1_int, AB.fCmp_int, AB.fNeg_int, AB.fIs_non, AB.fIsNot_non, AB.fIs_bool, AB.fIsNot_bool, AB.fIx_lst, AB.fIx_tup, AB.fIx_scr, AB.fIx_str, AB.fSl_lst, AB.fSl_tup, AB.fAbs_int, AB.fInt_int, AB.fInt_bool, AB.fMax2_int, AB.fMin2_int, AB.fLen_scr, AB.fLen_lst, AB.fLen_tup, AB.fLen_str, AB.fTupleOf_lst, AB.fTupleOf_tup, AB.fListOf_lst, AB.fListOf_tup, AB.fSum_lst, AB.fSum_tup, AB.fLstRev_lst, AB.fEq_eq, AB.fNe_eq, AB.on2_ss, AB.on1_s, AB.look_dat, AB.eqv_ii, AB.eqv_bb, AB.eqv_ss, AB.shaped_int, AB.shaped_b, AB.shaped_non, AB.isD_int_non, AB.isD_int_bl, AB.isD_int_int, AB.isD_int_str, AB.isD_int_lst, AB.isD_int_tup, AB.isD_bool_non, AB.isD_bool_bl, AB.isD_bool_int, AB.isD_bool_str, AB.isD_bool_lst, AB.isD_bool_tup, AB.isD_list_non, AB.isD_list_bl, AB.isD_list_int, AB.isD_list_str, AB.isD_list_lst, AB.isD_list_tup, AB.isD_tuple_non, AB.isD_tuple_bl, AB.isD_tuple_int, AB.isD_tuple_str, AB.isD_tuple_lst, AB.isD_tuple_tup, AB.isD_str_non, AB.isD_str_bl, AB.isD_str_int, AB.isD_str_str, AB.isD_str_lst, AB.isD_str_tup, List.map_cons, List.map_nil, List.length_cons, List.length_nil, List.replicate_succ, List.replicate_zero, List.cons_append, List.nil_append, List.append_nil, List.set_cons_zero, List.set_cons_succ, List.set_nil, List.getElem?_cons_zero, List.getElem?_cons_succ, List.getElem?_nil, Nat.sub_self, Nat.reduceAdd, Nat.reduceSub, Nat.zero_add, Nat.add_zero, Bool.false_eq_true, if_false, if_true, Bool.not_true, Bool.not_false, reduceIte]
  have hn : n ≤ 99 := by omega
  refine ⟨by simp [h5], by omega, by omega, by rw [rangeD_len]; omega, fun k acc => ∃ bs : List Bool, acc = bs.map bD ∧ bs.length = k, ⟨[], rfl, rfl⟩, ?_, ?_⟩
  · rintro k d acc hd ⟨bs, rfl, hk⟩
    simp only [a_law_6, AB.aSeq, AB.aDrop, AB.aRet, AB.aRetN, AB.aRetV, AB.aBrk, AB.aCt, AB.aApp, AB.aAug, AB.aRaise, AB.aPar, AB.aPar3, AB.aAsgT, AB.aNext, AB.aC, AB.aOp2, AB.aUn, AB.aNil, AB.aCons, AB.aCB, AB.aTru, AB.aAndV, AB.aOrV, AB.aNotV, AB.aChain, AB.aNoPart, AB.aPart, AB.aSl, AB.aTup, AB.aLst, AB.aCall, AB.aCallR, AB.aIsi, AB.aLc, AB.aFor, AB.aWhile, AB.aiR1, AB.aiR2, AB.aiR3, AB.aiU, AB.aiU.on1', AB.aiE, AB.agName, AB.agNil, AB.agCons, AB.agTup, AB.aTold, AB.aDrw, AB.aListR1, AB.aListR2, AB.aYes, AB.lookAll, AB.datAll, AB.startS, AB.startR, AB.endA, AB.endR, AB.itemsD, AB.noOwn, AB.wipeS, AB.isNoneD, AB.truD, AB.truOk, Bool.not_true, Bool.not_false, AB.aVar_eq, AB.aFrz_eq, AB.varK_val, AB.varK_lst, AB.varK_drw, AB.frzSK_lst, AB.frzSK_val, AB.look_ali, AB.aliK_lst, AB.frz_eq, AB.frzR_eq, AB.toR_eq, AB.aTB_eq, AB.aAsg_eq, AB.aIfS_eq, AB.aNotT_eq, AB.aAndT_eq, AB.aOrT_eq, AB.aIf_eq, AB.frzK_dat, AB.frzK_new, AB.frzRK_dat, AB.frzRK_new, AB.frzRK_drw, AB.toRK_dat, AB.tbK_bool, AB.asgK_dat, AB.asgK_new, AB.asgK_drw, AB.iteK_true, AB.iteK_false, AB.fAdd_int, AB.fAdd_tup, AB.fAdd_lst, AB.fAdd_str, AB.fSub_int, AB.fMul_int, AB.fMul_lst, AB.fDiv_int, AB.fMod_int, AB.fPow_int, AB.fShl_int, AB.fShr_int, AB.fAnd1_int, AB.fCmp_int, AB.fNeg_int, AB.fIs_non, AB.fIsNot_non, AB.fIs_bool, AB.fIsNot_bool, AB.fIx_lst, AB.fIx_tup, AB.fIx_scr, AB.fIx_str, AB.fSl_lst, AB.fSl_tup, AB.fAbs_int, AB.fInt_int, AB.fInt_bool, AB.fMax2_int, AB.fMin2_int, AB.fLen_scr, AB.fLen_lst, AB.fLen_tup, AB.fLen_str, AB.fTupleOf_lst, AB.fTupleOf_tup, AB.fListOf_lst, AB.fListOf_tup, AB.fSum_lst, AB.fSum_tup, AB.fLstRev_lst, AB.fEq_eq, AB.fNe_eq, AB.on2_ss, AB.on1_s, AB.look_dat, AB.eqv_ii, AB.eqv_bb, AB.eqv_ss, AB.shaped_int, AB.shaped_b, AB.shaped_non, AB.isD_int_non, AB.isD_int_bl, AB.isD_int_int, AB.isD_int_str, AB.isD_int_lst, AB.isD_int_tup, AB.isD_bool_non, AB.isD_bool_bl, AB.isD_bool_int, AB.isD_bool_str, AB.isD_bool_lst, AB.isD_bool_tup, AB.isD_list_non, AB.isD_list_bl, AB.isD_list_int, AB.isD_list_str, AB.isD_list_lst, AB.isD_list_tup, AB.isD_tuple_non, AB.isD_tuple_bl, AB.isD_tuple_int, AB.isD_tuple_str, AB.isD_tuple_lst, AB.isD_tuple_tup, AB.isD_str_non, AB.isD_str_bl, AB.isD_str_int, AB.isD_str_str, AB.isD_str_lst, AB.isD_str_tup, List.map_cons, List.map_nil, List.length_cons, List.length_nil, List.replicate_succ, List.replicate_zero, List.cons_append, List.nil_append, List.append_nil, List.set_cons_zero, List.set_cons_succ, List.set_nil, List.getElem?_cons_zero, List.getElem?_cons_succ, List.getElem?_nil, Nat.sub_self, Nat.reduceAdd, Nat.reduceSub, Nat.zero_add, Nat.add_zero, Bool.false_eq_true, if_false, if_true, Bool.not_true, Bool.not_false, reduceIte]
    refine ⟨_, rfl, by decide, fun r r0 r1 => ?_⟩
    try simp only [AB.aSeq, AB.aDrop, AB.aRet, AB.aRetN, AB.aRetV, AB.aBrk, AB.aCt, AB.aApp, AB.aAug, AB.aRaise, AB.aPar, AB.aPar3, AB.aAsgT, AB.aNext, AB.aC, AB.aOp2, AB.aUn, AB.aNil, AB.aCons, AB.aCB, AB.aTru, AB.aAndV, AB.aOrV, AB.aNotV, AB.aChain, AB.aNoPart, AB.aPart, AB.aSl, AB.aTup, AB.aLst, AB.aCall, AB.aCallR, AB.aIsi, AB.aLc, AB.aFor, AB.aWhile, AB.aiR1, AB.aiR2, AB.aiR3, AB.aiU, AB.aiU.on1', AB.aiE, AB.agName, AB.agNil, AB.agCons, AB.agTup, AB.aTold, AB.aDrw, AB.aListR1, AB.aListR2, AB.aYes, AB.lookAll, AB.datAll, AB.startS, AB.startR, AB.endA, AB.endR, AB.itemsD, AB.noOwn, AB.wipeS, AB.isNoneD, AB.truD, AB.truOk, Bool.not_true, Bool.not_false, AB.aVar_eq, AB.aFrz_eq, AB.varK_val, AB.varK_lst, AB.varK_drw, AB.frzSK_lst, AB.frzSK_val, AB.look_ali, AB.aliK_lst, AB.frz_eq, AB.frzR_eq, AB.toR_eq, AB.aTB_eq, AB.aAsg_eq, AB.aIfS_eq, AB.aNotT_eq, AB.aAndT_eq, AB.aOrT_eq, AB.aIf_eq, AB.frzK_dat, AB.frzK_new, AB.frzRK_dat, AB.frzRK_new, AB.frzRK_drw, AB.toRK_dat, AB.tbK_bool, AB.asgK_dat, AB.asgK_new, AB.asgK_drw, AB.iteK_true, AB.iteK_false, AB.fAdd_int, AB.fAdd_tup, AB.fAdd_lst, AB.fAdd_str, AB.fSub_int, AB.fMul_int, AB.fMul_lst, AB.fDiv_int, AB.fMod_int, AB.fPow_int, AB.fShl_int, AB.fShr_int, AB.fAnd1_int, AB.fCmp_int, AB.fNeg_int, AB.fIs_non, AB.fIsNot_non, AB.fIs_bool, AB.fIsNot_bool, AB.fIx_lst, AB.fIx_tup, AB.fIx_scr, AB.fIx_str, AB.fSl_lst, AB.fSl_tup, AB.fAbs_int, AB.fInt_int, AB.fInt_bool, AB.fMax2_int, AB.fMin2_int, AB.fLen_scr, AB.fLen_lst, AB.fLen_tup, AB.fLen_str, AB.fTupleOf_lst, AB.fTupleOf_tup, AB.fListOf_lst, AB.fListOf_tup, AB.fSum_lst, AB.fSum_tup, AB.fLstRev_lst, AB.fEq_eq, AB.fNe_eq, AB.on2_ss, AB.on1_s, AB.look_dat, AB.eqv_ii, AB.eqv_bb, AB.eqv_ss, AB.shaped_int, AB.shaped_b, AB.shaped_non, AB.isD_int_non, AB.isD_int_bl, AB.isD_int_int, AB.isD_int_str, AB.isD_int_lst, AB.isD_int_tup, AB.isD_bool_non, AB.isD_bool_bl, AB.isD_bool_int, AB.isD_bool_str, AB.isD_bool_lst, AB.isD_bool_tup, AB.isD_list_non, AB.isD_list_bl, AB.isD_list_int, AB.isD_list_str, AB.isD_list_lst, AB.isD_list_tup, AB.isD_tuple_non, AB.isD_tuple_bl, AB.isD_tuple_int, AB.isD_tuple_str, AB.isD_tuple_lst, AB.isD_tuple_tup, AB.isD_str_non, AB.isD_str_bl, AB.isD_str_int, AB.isD_str_str, AB.isD_str_lst, AB.isD_str_tup, List.map_cons, List.map_nil, List.length_cons, List.length_nil, List.replicate_succ, List.replicate_zero, List.cons_append, List.nil_append, List.append_nil, List.set_cons_zero, List.set_cons_succ, List.set_nil, List.getElem?_cons_zero, List.getElem?_cons_succ, List.getElem?_nil, Nat.sub_self, Nat.reduceAdd, Nat.reduceSub, Nat.zero_add, Nat.add_zero, Bool.false_eq_true, if_false, if_true, Bool.not_true, Bool.not_false, reduceIte]
    refine ⟨mok_l (by decide) (by decide), ?_⟩
    generalize decide (r < 1 + 2 * t) = b
    refine ⟨bs ++ [b], by rw [List.map_append]; rfl, by rw [List.length_append, hk]; rfl⟩
  · rintro acc ⟨bs, rfl, hk⟩
    rw [rangeD_len, Int.toNat_natCast] at hk
    subst hk
    refine ⟨_, map_bD bs, ?_⟩
    rw [sum_bits]
    try simp only [AB.aSeq, AB.aDrop, AB.aRet, AB.aRetN, AB.aRetV, AB.aBrk, AB.aCt, AB.aApp, AB.aAug, AB.aRaise, AB.aPar, AB.aPar3, AB.aAsgT, AB.aNext, AB.aC, AB.aOp2, AB.aUn, AB.aNil, AB.aCons, AB.aCB, AB.aTru, AB.aAndV, AB.aOrV, AB.aNotV, AB.aChain, AB.aNoPart, AB.aPart, AB.aSl, AB.aTup, AB.aLst, AB.aCall, AB.aCallR, AB.aIsi, AB.aLc, AB.aFor, AB.aWhile, AB.aiR1, AB.aiR2, AB.aiR3, AB.aiU, AB.aiU.on1', AB.aiE, AB.agName, AB.agNil, AB.agCons, AB.agTup, AB.aTold, AB.aDrw, AB.aListR1, AB.aListR2, AB.aYes, AB.lookAll, AB.datAll, AB.startS, AB.startR, AB.endA, AB.endR, AB.itemsD, AB.noOwn, AB.wipeS, AB.isNoneD, AB.truD, AB.truOk, Bool.not_true, Bool.not_false, AB.aVar_eq, AB.aFrz_eq, AB.varK_val, AB.varK_lst, AB.varK_drw, AB.frzSK_lst, AB.frzSK_val, AB.look_ali, AB.aliK_lst, AB.frz_eq, AB.frzR_eq, AB.toR_eq, AB.aTB_eq, AB.aAsg_eq, AB.aIfS_eq, AB.aNotT_eq, AB.aAndT_eq, AB.aOrT_eq, AB.aIf_eq, AB.frzK_dat, AB.frzK_new, AB.frzRK_dat, AB.frzRK_new, AB.frzRK_drw, AB.toRK_dat, AB.tbK_bool, AB.asgK_dat, AB.asgK_new, AB.asgK_drw, AB.iteK_true, AB.iteK_false, AB.fAdd_int, AB.fAdd_tup, AB.fAdd_lst, AB.fAdd_str, AB.fSub_int, AB.fMul_int, AB.fMul_lst, AB.fDiv_int, AB.fMod_int, AB.fPow_int, AB.fShl_int, AB.fShr_int, AB.fAnd1_int, AB.fCmp_int, AB.fNeg_int, AB.fIs_non, AB.fIsNot_non, AB.fIs_bool, AB.fIsNot_bool, AB.fIx_lst, AB.fIx_tup, AB.fIx_scr, AB.fIx_str, AB.fSl_lst, AB.fSl_tup, AB.fAbs_int, AB.fInt_int, AB.fInt_bool, AB.fMax2_int, AB.fMin2_int, AB.fLen_scr, AB.fLen_lst, AB.fLen_tup, AB.fLen_str, AB.fTupleOf_lst, AB.fTupleOf_tup, AB.fListOf_lst, AB.fListOf_tup, AB.fSum_lst, AB.fSum_tup, AB.fLstRev_lst, AB.fEq_eq, AB.fNe_eq, AB.on2_ss, AB.on1_s, AB.look_dat, AB.eqv_ii, AB.eqv_bb, AB.eqv_ss, AB.shaped_int, AB.shaped_b, AB.shaped_non, AB.isD_int_non, AB.isD_int_bl, AB.isD_int_int, AB.isD_int_str, AB.isD_int_lst, AB.isD_int_tup, AB.isD_bool_non, AB.isD_bool_bl, AB.isD_bool_int, AB.isD_bool_str, AB.isD_bool_lst, AB.isD_bool_tup, AB.isD_list_non, AB.isD_list_bl, AB.isD_list_int, AB.isD_list_str, AB.isD_list_lst, AB.isD_list_tup, AB.isD_tuple_non, AB.isD_tuple_bl, AB.isD_tuple_int, AB.isD_tuple_str, AB.isD_tuple_lst, AB.isD_tuple_tup, AB.isD_str_non, AB.isD_str_bl, AB.isD_str_int, AB.isD_str_str, AB.isD_str_lst, AB.isD_str_tup, List.map_cons, List.map_nil, List.length_cons, List.length_nil, List.replicate_succ, List.replicate_zero, List.cons_append, List.nil_append, List.append_nil, List.set_cons_zero, List.set_cons_succ, List.set_nil, List.getElem?_cons_zero, List.getElem?_cons_succ, List.getElem?_nil, Nat.sub_self, Nat.reduceAdd, Nat.reduceSub, Nat.zero_add, Nat.add_zero, Bool.false_eq_true, if_false, if_true, Bool.not_true, Bool.not_false, reduceIte]
    refine ⟨bs, rfl, by omega, ?_⟩
    try simp only [AB.aSeq, AB.aDrop, AB.aRet, AB.aRetN, AB.aRetV, AB.aBrk, AB.aCt, AB.aApp, AB.aAug, AB.aRaise, AB.aPar, AB.aPar3, AB.aAsgT, AB.aNext, AB.aC, AB.aOp2, AB.aUn, AB.aNil, AB.aCons, AB.aCB, AB.aTru, AB.aAndV, AB.aOrV, AB.aNotV, AB.aChain, AB.aNoPart, AB.aPart, AB.aSl, AB.aTup, AB.aLst, AB.aCall, AB.aCallR, AB.aIsi, AB.aLc, AB.aFor, AB.aWhile, AB.aiR1, AB.aiR2, AB.aiR3, AB.aiU, AB.aiU.on1', AB.aiE, AB.agName, AB.agNil, AB.agCons, AB.agTup, AB.aTold, AB.aDrw, AB.aListR1, AB.aListR2, AB.aYes, AB.lookAll, AB.datAll, AB.startS, AB.startR, AB.endA, AB.endR, AB.itemsD, AB.noOwn, AB.wipeS, AB.isNoneD, AB.truD, AB.truOk, Bool.not_true, Bool.not_false, AB.aVar_eq, AB.aFrz_eq, AB.varK_val, AB.varK_lst, AB.varK_drw, AB.frzSK_lst, AB.frzSK_val, AB.look_ali, AB.aliK_lst, AB.frz_eq, AB.frzR_eq, AB.toR_eq, AB.aTB_eq, AB.aAsg_eq, AB.aIfS_eq, AB.aNotT_eq, AB.aAndT_eq, AB.aOrT_eq, AB.aIf_eq, AB.frzK_dat, AB.frzK_new, AB.frzRK_dat, AB.frzRK_new, AB.frzRK_drw, AB.toRK_dat, AB.tbK_bool, AB.asgK_dat, AB.asgK_new, AB.asgK_drw, AB.iteK_true, AB.iteK_false, AB.fAdd_int, AB.fAdd_tup, AB.fAdd_lst, AB.fAdd_str, AB.fSub_int, AB.fMul_int, AB.fMul_lst, AB.fDiv_int, AB.fMod_int, AB.fPow_int, AB.fShl_int, AB.fShr_int, AB.fAnd1_int, AB.fCmp_int, AB.fNeg_int, AB.fIs_non, AB.fIsNot_non, AB.fIs_bool, AB.fIsNot_bool, AB.fIx_lst, AB.fIx_tup, AB.fIx_scr, AB.fIx_str, AB.fSl_lst, AB.fSl_tup, AB.fAbs_int, AB.fInt_int, AB.fInt_bool, AB.fMax2_int, AB.fMin2_int, AB.fLen_scr, AB.fLen_lst, AB.fLen_tup, AB.fLen_str, AB.fTupleOf_lst, AB.fTupleOf_tup, AB.fListOf_lst, AB.fListOf_tup, AB.fSum_lst, AB.fSum_tup, AB.fLstRev_lst, AB.fEq_eq, AB.fNe_eq, AB.on2_ss, AB.on1_s, AB.look_dat, AB.eqv_ii, AB.eqv_bb, AB.eqv_ss, AB.shaped_int, AB.shaped_b, AB.shaped_non, AB.isD_int_non, AB.isD_int_bl, AB.isD_int_int, AB.isD_int_str, AB.isD_int_lst, AB.isD_int_tup, AB.isD_bool_non, AB.isD_bool_bl, AB.isD_bool_int, AB.isD_bool_str, AB.isD_bool_lst, AB.isD_bool_tup, AB.isD_list_non, AB.isD_list_bl, AB.isD_list_int, AB.isD_list_str, AB.isD_list_lst, AB.isD_list_tup, AB.isD_tuple_non, AB.isD_tuple_bl, AB.isD_tuple_int, AB.isD_tuple_str, AB.isD_tuple_lst, AB.isD_tuple_tup, AB.isD_str_non, AB.isD_str_bl, AB.isD_str_int, AB.isD_str_str, AB.isD_str_lst, AB.isD_str_tup, List.map_cons, List.map_nil, List.length_cons, List.length_nil, List.replicate_succ, List.replicate_zero, List.cons_append, List.nil_append, List.append_nil, List.set_cons_zero, List.set_cons_succ, List.set_nil, List.getElem?_cons_zero, List.getElem?_cons_succ, List.getElem?_nil, Nat.sub_self, Nat.reduceAdd, Nat.reduceSub, Nat.zero_add, Nat.add_zero, Bool.false_eq_true, if_false, if_true, Bool.not_true, Bool.not_false, reduceIte]
    refine ⟨by decide, trivial, ?_⟩
    refine ⟨bs.length, (cnt bs : Nat), rfl, by omega, ?_⟩
    try simp only [AB.aSeq, AB.aDrop, AB.aRet, AB.aRetN, AB.aRetV, AB.aBrk, AB.aCt, AB.aApp, AB.aAug, AB.aRaise, AB.aPar, AB.aPar3, AB.aAsgT, AB.aNext, AB.aC, AB.aOp2, AB.aUn, AB.aNil, AB.aCons, AB.aCB, AB.aTru, AB.aAndV, AB.aOrV, AB.aNotV, AB.aChain, AB.aNoPart, AB.aPart, AB.aSl, AB.aTup, AB.aLst, AB.aCall, AB.aCallR, AB.aIsi, AB.aLc, AB.aFor, AB.aWhile, AB.aiR1, AB.aiR2, AB.aiR3, AB.aiU, AB.aiU.on1', AB.aiE, AB.agName, AB.agNil, AB.agCons, AB.agTup, AB.aTold, AB.aDrw, AB.aListR1, AB.aListR2, AB.aYes, AB.lookAll, AB.datAll, AB.startS, AB.startR, AB.endA, AB.endR, AB.itemsD, AB.noOwn, AB.wipeS, AB.isNoneD, AB.truD, AB.truOk, Bool.not_true, Bool.not_false, AB.aVar_eq, AB.aFrz_eq, AB.varK_val, AB.varK_lst, AB.varK_drw, AB.frzSK_lst, AB.frzSK_val, AB.look_ali, AB.aliK_lst, AB.frz_eq, AB.frzR_eq, AB.toR_eq, AB.aTB_eq, AB.aAsg_eq, AB.aIfS_eq, AB.aNotT_eq, AB.aAndT_eq, AB.aOrT_eq, AB.aIf_eq, AB.frzK_dat, AB.frzK_new, AB.frzRK_dat, AB.frzRK_new, AB.frzRK_drw, AB.toRK_dat, AB.tbK_bool, AB.asgK_dat, AB.asgK_new, AB.asgK_drw, AB.iteK_true, AB.iteK_false, AB.fAdd_int, AB.fAdd_tup, AB.fAdd_lst, AB.fAdd_str, AB.fSub_int, AB.fMul_int, AB.fMul_lst, AB.fDiv_int, AB.fMod_int, AB.fPow_int, AB.fShl_int, AB.fShr_int, AB.fAnd1_int, AB.fCmp_int, AB.fNeg_int, AB.fIs_non, AB.fIsNot_non, AB.fIs_bool, AB.fIsNot_bool, AB.fIx_lst, AB.fIx_tup, AB.fIx_scr, AB.fIx_str, AB.fSl_lst, AB.fSl_tup, AB.fAbs_int, AB.fInt_int, AB.fInt_bool, AB.fMax2_int, AB.fMin2_int, AB.fLen_scr, AB.fLen_lst, AB.fLen_tup, AB.fLen_str, AB.fTupleOf_lst, AB.fTupleOf_tup, AB.fListOf_lst, AB.fListOf_tup, AB.fSum_lst, AB.fSum_tup, AB.fLstRev_lst, AB.fEq_eq, AB.fNe_eq, AB.on2_ss, AB.on1_s, AB.look_dat, AB.eqv_ii, AB.eqv_bb, AB.eqv_ss, AB.shaped_int, AB.shaped_b, AB.shaped_non, AB.isD_int_non, AB.isD_int_bl, AB.isD_int_int, AB.isD_int_str, AB.isD_int_lst, AB.isD_int_tup, AB.isD_bool_non, AB.isD_bool_bl, AB.isD_bool_int, AB.isD_bool_str, AB.isD_bool_lst, AB.isD_bool_tup, AB.isD_list_non, AB.isD_list_bl, AB.isD_list_int, AB.isD_list_str, AB.isD_list_lst, AB.isD_list_tup, AB.isD_tuple_non, AB.isD_tuple_bl, AB.isD_tuple_int, AB.isD_tuple_str, AB.isD_tuple_lst, AB.isD_tuple_tup, AB.isD_str_non, AB.isD_str_bl, AB.isD_str_int, AB.isD_str_str, AB.isD_str_lst, AB.isD_str_tup, List.map_cons, List.map_nil, List.length_cons, List.length_nil, List.replicate_succ, List.replicate_zero, List.cons_append, List.nil_append, List.append_nil, List.set_cons_zero, List.set_cons_succ, List.set_nil, List.getElem?_cons_zero, List.getElem?_cons_succ, List.getElem?_nil, Nat.sub_self, Nat.reduceAdd, Nat.reduceSub, Nat.zero_add, Nat.add_zero, Bool.false_eq_true, if_false, if_true, Bool.not_true, Bool.not_false, reduceIte]
    obtain ⟨g1, g2⟩ := rank_ok bs
    refine ⟨bs, rfl, by omega, ?_⟩
    try simp only [AB.aSeq, AB.aDrop, AB.aRet, AB.aRetN, AB.aRetV, AB.aBrk, AB.aCt, AB.aApp, AB.aAug, AB.aRaise, AB.aPar, AB.aPar3, AB.aAsgT, AB.aNext, AB.aC, AB.aOp2, AB.aUn, AB.aNil, AB.aCons, AB.aCB, AB.aTru, AB.aAndV, AB.aOrV, AB.aNotV, AB.aChain, AB.aNoPart, AB.aPart, AB.aSl, AB.aTup, AB.aLst, AB.aCall, AB.aCallR, AB.aIsi, AB.aLc, AB.aFor, AB.aWhile, AB.aiR1, AB.aiR2, AB.aiR3, AB.aiU, AB.aiU.on1', AB.aiE, AB.agName, AB.agNil, AB.agCons, AB.agTup, AB.aTold, AB.aDrw, AB.aListR1, AB.aListR2, AB.aYes, AB.lookAll, AB.datAll, AB.startS, AB.startR, AB.endA, AB.endR, AB.itemsD, AB.noOwn, AB.wipeS, AB.isNoneD, AB.truD, AB.truOk, Bool.not_true, Bool.not_false, AB.aVar_eq, AB.aFrz_eq, AB.varK_val, AB.varK_lst, AB.varK_drw, AB.frzSK_lst, AB.frzSK_val, AB.look_ali, AB.aliK_lst, AB.frz_eq, AB.frzR_eq, AB.toR_eq, AB.aTB_eq, AB.aAsg_eq, AB.aIfS_eq, AB.aNotT_eq, AB.aAndT_eq, AB.aOrT_eq, AB.aIf_eq, AB.frzK_dat, AB.frzK_new, AB.frzRK_dat, AB.frzRK_new, AB.frzRK_drw, AB.toRK_dat, AB.tbK_bool, AB.asgK_dat, AB.asgK_new, AB.asgK_drw, AB.iteK_true, AB.iteK_false, AB.fAdd_int, AB.fAdd_tup, AB.fAdd_lst, AB.fAdd_str, AB.fSub_int, AB.fMul_int, AB.fMul_lst, AB.fDiv_int, AB.fMod_int, AB.fPow_int, AB.fShl_int, AB.fShr_int, AB.fAnd1_int, AB.fCmp_int, AB.fNeg_int, AB.fIs_non, AB.fIsNot_non, AB.fIs_bool, AB.fIsNot_bool, AB.fIx_lst, AB.fIx_tup, AB.fIx_scr, AB.fIx_str, AB.fSl_lst, AB.fSl_tup, AB.fAbs_int, AB.fInt_int, AB.fInt_bool, AB.fMax2_int, AB.fMin2_int, AB.fLen_scr, AB.fLen_lst, AB.fLen_tup, AB.fLen_str, AB.fTupleOf_lst, AB.fTupleOf_tup, AB.fListOf_lst, AB.fListOf_tup, AB.fSum_lst, AB.fSum_tup, AB.fLstRev_lst, AB.fEq_eq, AB.fNe_eq, AB.on2_ss, AB.on1_s, AB.look_dat, AB.eqv_ii, AB.eqv_bb, AB.eqv_ss, AB.shaped_int, AB.shaped_b, AB.shaped_non, AB.isD_int_non, AB.isD_int_bl, AB.isD_int_int, AB.isD_int_str, AB.isD_int_lst, AB.isD_int_tup, AB.isD_bool_non, AB.isD_bool_bl, AB.isD_bool_int, AB.isD_bool_str, AB.isD_bool_lst, AB.isD_bool_tup, AB.isD_list_non, AB.isD_list_bl, AB.isD_list_int, AB.isD_list_str, AB.isD_list_lst, AB.isD_list_tup, AB.isD_tuple_non, AB.isD_tuple_bl, AB.isD_tuple_int, AB.isD_tuple_str, AB.isD_tuple_lst, AB.isD_tuple_tup, AB.isD_str_non, AB.isD_str_bl, AB.isD_str_int, AB.isD_str_str, AB.isD_str_lst, AB.isD_str_tup, List.map_cons, List.map_nil, List.length_cons, List.length_nil, List.replicate_succ, List.replicate_zero, List.cons_append, List.nil_append, List.append_nil, List.set_cons_zero, List.set_cons_succ, List.set_nil, List.getElem?_cons_zero, List.getElem?_cons_succ, List.getElem?_nil, Nat.sub_self, Nat.reduceAdd, Nat.reduceSub, Nat.zero_add, Nat.add_zero, Bool.false_eq_true, if_false, if_true, Bool.not_true, Bool.not_false, reduceIte]
    refine .inr (.inr (.inl ⟨bs.length, (cnt bs : Nat), rank bs, rfl, by omega, g1, ?_⟩))
    try simp only [AB.aSeq, AB.aDrop, AB.aRet, AB.aRetN, AB.aRetV, AB.aBrk, AB.aCt, AB.aApp, AB.aAug, AB.aRaise, AB.aPar, AB.aPar3, AB.aAsgT, AB.aNext, AB.aC, AB.aOp2, AB.aUn, AB.aNil, AB.aCons, AB.aCB, AB.aTru, AB.aAndV, AB.aOrV, AB.aNotV, AB.aChain, AB.aNoPart, AB.aPart, AB.aSl, AB.aTup, AB.aLst, AB.aCall, AB.aCallR, AB.aIsi, AB.aLc, AB.aFor, AB.aWhile, AB.aiR1, AB.aiR2, AB.aiR3, AB.aiU, AB.aiU.on1', AB.aiE, AB.agName, AB.agNil, AB.agCons, AB.agTup, AB.aTold, AB.aDrw, AB.aListR1, AB.aListR2, AB.aYes, AB.lookAll, AB.datAll, AB.startS, AB.startR, AB.endA, AB.endR, AB.itemsD, AB.noOwn, AB.wipeS, AB.isNoneD, AB.truD, AB.truOk, Bool.not_true, Bool.not_false, AB.aVar_eq, AB.aFrz_eq, AB.varK_val, AB.varK_lst, AB.varK_drw, AB.frzSK_lst, AB.frzSK_val, AB.look_ali, AB.aliK_lst, AB.frz_eq, AB.frzR_eq, AB.toR_eq, AB.aTB_eq, AB.aAsg_eq, AB.aIfS_eq, AB.aNotT_eq, AB.aAndT_eq, AB.aOrT_eq, AB.aIf_eq, AB.frzK_dat, AB.frzK_new, AB.frzRK_dat, AB.frzRK_new, AB.frzRK_drw, AB.toRK_dat, AB.tbK_bool, AB.asgK_dat, AB.asgK_new, AB.asgK_drw, AB.iteK_true, AB.iteK_false, AB.fAdd_int, AB.fAdd_tup, AB.fAdd_lst, AB.fAdd_str, AB.fSub_int, AB.fMul_int, AB.fMul_lst, AB.fDiv_int, AB.fMod_int, AB.fPow_int, AB.fShl_int, AB.fShr_int, AB.fAnd1_int, AB.fCmp_int, AB.fNeg_int, AB.fIs_non, AB.fIsNot_non, AB.fIs_bool, AB.fIsNot_bool, AB.fIx_lst, AB.fIx_tup, AB.fIx_scr, AB.fIx_str, AB.fSl_lst, AB.fSl_tup, AB.fAbs_int, AB.fInt_int, AB.fInt_bool, AB.fMax2_int, AB.fMin2_int, AB.fLen_scr, AB.fLen_lst, AB.fLen_tup, AB.fLen_str, AB.fTupleOf_lst, AB.fTupleOf_tup, AB.fListOf_lst, AB.fListOf_tup, AB.fSum_lst, AB.fSum_tup, AB.fLstRev_lst, AB.fEq_eq, AB.fNe_eq, AB.on2_ss, AB.on1_s, AB.look_dat, AB.eqv_ii, AB.eqv_bb, AB.eqv_ss, AB.shaped_int, AB.shaped_b, AB.shaped_non, AB.isD_int_non, AB.isD_int_bl, AB.isD_int_int, AB.isD_int_str, AB.isD_int_lst, AB.isD_int_tup, AB.isD_bool_non, AB.isD_bool_bl, AB.isD_bool_int, AB.isD_bool_str, AB.isD_bool_lst, AB.isD_bool_tup, AB.isD_list_non, AB.isD_list_bl, AB.isD_list_int, AB.isD_list_str, AB.isD_list_lst, AB.isD_list_tup, AB.isD_tuple_non, AB.isD_tuple_bl, AB.isD_tuple_int, AB.isD_tuple_str, AB.isD_tuple_lst, AB.isD_tuple_tup, AB.isD_str_non, AB.isD_str_bl, AB.isD_str_int, AB.isD_str_str, AB.isD_str_lst, AB.isD_str_tup, List.map_cons, List.map_nil, List.length_cons, List.length_nil, List.replicate_succ, List.replicate_zero, List.cons_append, List.nil_append, List.append_nil, List.set_cons_zero, List.set_cons_succ, List.set_nil, List.getElem?_cons_zero, List.getElem?_cons_succ, List.getElem?_nil, Nat.sub_self, Nat.reduceAdd, Nat.reduceSub, Nat.zero_add, Nat.add_zero, Bool.false_eq_true, if_false, if_true, Bool.not_true, Bool.not_false, reduceIte]
    refine .inl ⟨bs.length, (cnt bs : Nat), .none, rfl, by omega, ?_⟩
    try simp only [AB.aSeq, AB.aDrop, AB.aRet, AB.aRetN, AB.aRetV, AB.aBrk, AB.aCt, AB.aApp, AB.aAug, AB.aRaise, AB.aPar, AB.aPar3, AB.aAsgT, AB.aNext, AB.aC, AB.aOp2, AB.aUn, AB.aNil, AB.aCons, AB.aCB, AB.aTru, AB.aAndV, AB.aOrV, AB.aNotV, AB.aChain, AB.aNoPart, AB.aPart, AB.aSl, AB.aTup, AB.aLst, AB.aCall, AB.aCallR, AB.aIsi, AB.aLc, AB.aFor, AB.aWhile, AB.aiR1, AB.aiR2, AB.aiR3, AB.aiU, AB.aiU.on1', AB.aiE, AB.agName, AB.agNil, AB.agCons, AB.agTup, AB.aTold, AB.aDrw, AB.aListR1, AB.aListR2, AB.aYes, AB.lookAll, AB.datAll, AB.startS, AB.startR, AB.endA, AB.endR, AB.itemsD, AB.noOwn, AB.wipeS, AB.isNoneD, AB.truD, AB.truOk, Bool.not_true, Bool.not_false, AB.aVar_eq, AB.aFrz_eq, AB.varK_val, AB.varK_lst, AB.varK_drw, AB.frzSK_lst, AB.frzSK_val, AB.look_ali, AB.aliK_lst, AB.frz_eq, AB.frzR_eq, AB.toR_eq, AB.aTB_eq, AB.aAsg_eq, AB.aIfS_eq, AB.aNotT_eq, AB.aAndT_eq, AB.aOrT_eq, AB.aIf_eq, AB.frzK_dat, AB.frzK_new, AB.frzRK_dat, AB.frzRK_new, AB.frzRK_drw, AB.toRK_dat, AB.tbK_bool, AB.asgK_dat, AB.asgK_new, AB.asgK_drw, AB.iteK_true, AB.iteK_false, AB.fAdd_int, AB.fAdd_tup, AB.fAdd_lst, AB.fAdd_str, AB.fSub_int, AB.fMul_int, AB.fMul_lst, AB.fDiv_int, AB.fMod_int, AB.fPow_int, AB.fShl_int, AB.fShr_int, AB.fAnd1_int, AB.fCmp_int, AB.fNeg_int, AB.fIs_non, AB.fIsNot_non, AB.fIs_bool, AB.fIsNot_bool, AB.fIx_lst, AB.fIx_tup, AB.fIx_scr, AB.fIx_str, AB.fSl_lst, AB.fSl_tup, AB.fAbs_int, AB.fInt_int, AB.fInt_bool, AB.fMax2_int, AB.fMin2_int, AB.fLen_scr, AB.fLen_lst, AB.fLen_tup, AB.fLen_str, AB.fTupleOf_lst, AB.fTupleOf_tup, AB.fListOf_lst, AB.fListOf_tup, AB.fSum_lst, AB.fSum_tup, AB.fLstRev_lst, AB.fEq_eq, AB.fNe_eq, AB.on2_ss, AB.on1_s, AB.look_dat, AB.eqv_ii, AB.eqv_bb, AB.eqv_ss, AB.shaped_int, AB.shaped_b, AB.shaped_non, AB.isD_int_non, AB.isD_int_bl, AB.isD_int_int, AB.isD_int_str, AB.isD_int_lst, AB.isD_int_tup, AB.isD_bool_non, AB.isD_bool_bl, AB.isD_bool_int, AB.isD_bool_str, AB.isD_bool_lst, AB.isD_bool_tup, AB.isD_list_non, AB.isD_list_bl, AB.isD_list_int, AB.isD_list_str, AB.isD_list_lst, AB.isD_list_tup, AB.isD_tuple_non, AB.isD_tuple_bl, AB.isD_tuple_int, AB.isD_tuple_str, AB.isD_tuple_lst, AB.isD_tuple_tup, AB.isD_str_non, AB.isD_str_bl, AB.isD_str_int, AB.isD_str_str, AB.isD_str_lst, AB.isD_str_tup, List.map_cons, List.map_nil, List.length_cons, List.length_nil, List.replicate_succ, List.replicate_zero, List.cons_append, List.nil_append, List.append_nil, List.set_cons_zero, List.set_cons_succ, List.set_nil, List.getElem?_cons_zero, List.getElem?_cons_succ, List.getElem?_nil, Nat.sub_self, Nat.reduceAdd, Nat.reduceSub, Nat.zero_add, Nat.add_zero, Bool.false_eq_true, if_false, if_true, Bool.not_true, Bool.not_false, reduceIte]
    rw [g2]
    refine ⟨by decide, by decide, _, rfl, dep3 (dep_int _ _) (dep_row (by omega) 2) (dep_int _ _), ?_⟩
    try simp only [AB.aSeq, AB.aDrop, AB.aRet, AB.aRetN, AB.aRetV, AB.aBrk, AB.aCt, AB.aApp, AB.aAug, AB.aRaise, AB.aPar, AB.aPar3, AB.aAsgT, AB.aNext, AB.aC, AB.aOp2, AB.aUn, AB.aNil, AB.aCons, AB.aCB, AB.aTru, AB.aAndV, AB.aOrV, AB.aNotV, AB.aChain, AB.aNoPart, AB.aPart, AB.aSl, AB.aTup, AB.aLst, AB.aCall, AB.aCallR, AB.aIsi, AB.aLc, AB.aFor, AB.aWhile, AB.aiR1, AB.aiR2, AB.aiR3, AB.aiU, AB.aiU.on1', AB.aiE, AB.agName, AB.agNil, AB.agCons, AB.agTup, AB.aTold, AB.aDrw, AB.aListR1, AB.aListR2, AB.aYes, AB.lookAll, AB.datAll, AB.startS, AB.startR, AB.endA, AB.endR, AB.itemsD, AB.noOwn, AB.wipeS, AB.isNoneD, AB.truD, AB.truOk, Bool.not_true, Bool.not_false, AB.aVar_eq, AB.aFrz_eq, AB.varK_val, AB.varK_lst, AB.varK_drw, AB.frzSK_lst, AB.frzSK_val, AB.look_ali, AB.aliK_lst, AB.frz_eq, AB.frzR_eq, AB.toR_eq, AB.aTB_eq, AB.aAsg_eq, AB.aIfS_eq, AB.aNotT_eq, AB.aAndT_eq, AB.aOrT_eq, AB.aIf_eq, AB.frzK_dat, AB.frzK_new, AB.frzRK_dat, AB.frzRK_new, AB.frzRK_drw, AB.toRK_dat, AB.tbK_bool, AB.asgK_dat, AB.asgK_new, AB.asgK_drw, AB.iteK_true, AB.iteK_false, AB.fAdd_int, AB.fAdd_tup, AB.fAdd_lst, AB.fAdd_str, AB.fSub_int, AB.fMul_int, AB.fMul_lst, AB.fDiv_int, AB.fMod_int, AB.fPow_int, AB.fShl_int, AB.fShr_int, AB.fAnd1_int, AB.fCmp_int, AB.fNeg_int, AB.fIs_non, AB.fIsNot_non, AB.fIs_bool, AB.fIsNot_bool, AB.fIx_lst, AB.fIx_tup, AB.fIx_scr, AB.fIx_str, AB.fSl_lst, AB.fSl_tup, AB.fAbs_int, AB.fInt_int, AB.fInt_bool, AB.fMax2_int, AB.fMin2_int, AB.fLen_scr, AB.fLen_lst, AB.fLen_tup, AB.fLen_str, AB.fTupleOf_lst, AB.fTupleOf_tup, AB.fListOf_lst, AB.fListOf_tup, AB.fSum_lst, AB.fSum_tup, AB.fLstRev_lst, AB.fEq_eq, AB.fNe_eq, AB.on2_ss, AB.on1_s, AB.look_dat, AB.eqv_ii, AB.eqv_bb, AB.eqv_ss, AB.shaped_int, AB.shaped_b, AB.shaped_non, AB.isD_int_non, AB.isD_int_bl, AB.isD_int_int, AB.isD_int_str, AB.isD_int_lst, AB.isD_int_tup, AB.isD_bool_non, AB.isD_bool_bl, AB.isD_bool_int, AB.isD_bool_str, AB.isD_bool_lst, AB.isD_bool_tup, AB.isD_list_non, AB.isD_list_bl, AB.isD_list_int, AB.isD_list_str, AB.isD_list_lst, AB.isD_list_tup, AB.isD_tuple_non, AB.isD_tuple_bl, AB.isD_tuple_int, AB.isD_tuple_str, AB.isD_tuple_lst, AB.isD_tuple_tup, AB.isD_str_non, AB.isD_str_bl, AB.isD_str_int, AB.isD_str_str, AB.isD_str_lst, AB.isD_str_tup, List.map_cons, List.map_nil, List.length_cons, List.length_nil, List.replicate_succ, List.replicate_zero, List.cons_append, List.nil_append, List.append_nil, List.set_cons_zero, List.set_cons_succ, List.set_nil, List.getElem?_cons_zero, List.getElem?_cons_succ, List.getElem?_nil, Nat.sub_self, Nat.reduceAdd, Nat.reduceSub, Nat.zero_add, Nat.add_zero, Bool.false_eq_true, if_false, if_true, Bool.not_true, Bool.not_false, reduceIte]
    rw [if_pos (decide_eq_true (show (0 : Int) ≤ (rank bs : Int) by omega)), decide_eq_true (Int.ofNat_lt.mpr g1)]
    try simp only [AB.aSeq, AB.aDrop, AB.aRet, AB.aRetN, AB.aRetV, AB.aBrk, AB.aCt, AB.aApp, AB.aAug, AB.aRaise, AB.aPar, AB.aPar3, AB.aAsgT, AB.aNext, AB.aC, AB.aOp2, AB.aUn, AB.aNil, AB.aCons, AB.aCB, AB.aTru, AB.aAndV, AB.aOrV, AB.aNotV, AB.aChain, AB.aNoPart, AB.aPart, AB.aSl, AB.aTup, AB.aLst, AB.aCall, AB.aCallR, AB.aIsi, AB.aLc, AB.aFor, AB.aWhile, AB.aiR1, AB.aiR2, AB.aiR3, AB.aiU, AB.aiU.on1', AB.aiE, AB.agName, AB.agNil, AB.agCons, AB.agTup, AB.aTold, AB.aDrw, AB.aListR1, AB.aListR2, AB.aYes, AB.lookAll, AB.datAll, AB.startS, AB.startR, AB.endA, AB.endR, AB.itemsD, AB.noOwn, AB.wipeS, AB.isNoneD, AB.truD, AB.truOk, Bool.not_true, Bool.not_false, AB.aVar_eq, AB.aFrz_eq, AB.varK_val, AB.varK_lst, AB.varK_drw, AB.frzSK_lst, AB.frzSK_val, AB.look_ali, AB.aliK_lst, AB.frz_eq, AB.frzR_eq, AB.toR_eq, AB.aTB_eq, AB.aAsg_eq, AB.aIfS_eq, AB.aNotT_eq, AB.aAndT_eq, AB.aOrT_eq, AB.aIf_eq, AB.frzK_dat, AB.frzK_new, AB.frzRK_dat, AB.frzRK_new, AB.frzRK_drw, AB.toRK_dat, AB.tbK_bool, AB.asgK_dat, AB.asgK_new, AB.asgK_drw, AB.iteK_true, AB.iteK_false, AB.fAdd_int, AB.fAdd_tup, AB.fAdd_lst, AB.fAdd_str, AB.fSub_int, AB.fMul_int, AB.fMul_lst, AB.fDiv_int, AB.fMod_int, AB.fPow_int, AB.fShl_int, AB.fShr_int, AB.fAnd1_int, AB.fCmp_int, AB.fNeg_int, AB.fIs_non, AB.fIsNot_non, AB.fIs_bool, AB.fIsNot_bool, AB.fIx_lst, AB.fIx_tup, AB.fIx_scr, AB.fIx_str, AB.fSl_lst, AB.fSl_tup, AB.fAbs_int, AB.fInt_int, AB.fInt_bool, AB.fMax2_int, AB.fMin2_int, AB.fLen_scr, AB.fLen_lst, AB.fLen_tup, AB.fLen_str, AB.fTupleOf_lst, AB.fTupleOf_tup, AB.fListOf_lst, AB.fListOf_tup, AB.fSum_lst, AB.fSum_tup, AB.fLstRev_lst, AB.fEq_eq, AB.fNe_eq, AB.on2_ss, AB.on1_s, AB.look_dat, AB.eqv_ii, AB.eqv_bb, AB.eqv_ss, AB.shaped_int, AB.shaped_b, AB.shaped_non, AB.isD_int_non, AB.isD_int_bl, AB.isD_int_int, AB.isD_int_str, AB.isD_int_lst, AB.isD_int_tup, AB.isD_bool_non, AB.isD_bool_bl, AB.isD_bool_int, AB.isD_bool_str, AB.isD_bool_lst, AB.isD_bool_tup, AB.isD_list_non, AB.isD_list_bl, AB.isD_list_int, AB.isD_list_str, AB.isD_list_lst, AB.isD_list_tup, AB.isD_tuple_non, AB.isD_tuple_bl, AB.isD_tuple_int, AB.isD_tuple_str, AB.isD_tuple_lst, AB.isD_tuple_tup, AB.isD_str_non, AB.isD_str_bl, AB.isD_str_int, AB.isD_str_str, AB.isD_str_lst, AB.isD_str_tup, List.map_cons, List.map_nil, List.length_cons, List.length_nil, List.replicate_succ, List.replicate_zero, List.cons_append, List.nil_append, List.append_nil, List.set_cons_zero, List.set_cons_succ, List.set_nil, List.getElem?_cons_zero, List.getElem?_cons_succ, List.getElem?_nil, Nat.sub_self, Nat.reduceAdd, Nat.reduceSub, Nat.zero_add, Nat.add_zero, Bool.false_eq_true, if_false, if_true, Bool.not_true, Bool.not_false, reduceIte]
    exact law_r8 A l bs (by omega) _ _ _ _ _ _ _ _ _ _ fun s10 s11 => hA _ _ _ _ _ s10 s11 rfl
/-! the rest -/
theorem law_r12 (Q : RV → Prop) (Xe : XP) (hp : Q (.dat (.bool true))) (s0 s1 s2 s3 s4 s5 s6 s7 s8 s9 s10 s11 s12 : SV) :
    a_law_r12 (endA Q Xe) [s0, s1, s2, s3, s4, s5, s6, s7, s8, s9, s10, s11, s12, .no] := by
  simp only [a_law_r12, AB.aSeq, AB.aDrop, AB.aRet, AB.aRetN, AB.aRetV, AB.aBrk, AB.aCt, AB.aApp, AB.aAug, AB.aRaise, AB.aPar, AB.aPar3, AB.aAsgT, AB.aNext, AB.aC, AB.aOp2, AB.aUn, AB.aNil, AB.aCons, AB.aCB, AB.aTru, AB.aAndV, AB.aOrV, AB.aNotV, AB.aChain, AB.aNoPart, AB.aPart, AB.aSl, AB.aTup, AB.aLst, AB.aCall, AB.aCallR, AB.aIsi, AB.aLc, AB.aFor, AB.aWhile, AB.aiR1, AB.aiR2, AB.aiR3, AB.aiU, AB.aiU.on1', AB.aiE, AB.agName, AB.agNil, AB.agCons, AB.agTup, AB.aTold, AB.aDrw, AB.aListR1, AB.aListR2, AB.aYes, AB.lookAll, AB.datAll, AB.startS, AB.startR, AB.endA, AB.endR, AB.itemsD, AB.noOwn, AB.wipeS, AB.isNoneD, AB.truD, AB.truOk, Bool.not_true, Bool.not_false, AB.aVar_eq, AB.aFrz_eq, AB.varK_val, AB.varK_lst, AB.varK_drw, AB.frzSK_lst, AB.frzSK_val, AB.look_ali, AB.aliK_lst, AB.frz_eq, AB.frzR_eq, AB.toR_eq, AB.aTB_eq, AB.aAsg_eq, AB.aIfS_eq, AB.aNotT_eq, AB.aAndT_eq, AB.aOrT_eq, AB.aIf_eq, AB.frzK_dat, AB.frzK_new, AB.frzRK_dat, AB.frzRK_new, AB.frzRK_drw, AB.toRK_dat, AB.tbK_bool, AB.asgK_dat, AB.asgK_new, AB.asgK_drw, AB.iteK_true, AB.iteK_false, AB.fAdd_int, AB.fAdd_tup, AB.fAdd_lst, AB.fAdd_str, AB.fSub_int, AB.fMul_int, AB.fMul_lst, AB.fDiv_int, AB.fMod_int, AB.fPow_int, AB.fShl_int, AB.fShr_int, AB.fAnd1_int, AB.fCmp_int, AB.fNeg_int, AB.fIs_non, AB.fIsNot_non, AB.fIs_bool, AB.fIsNot_bool, AB.fIx_lst, AB.fIx_tup, AB.fIx_scr, AB.fIx_str, AB.fSl_lst, AB.fSl_tup, AB.fAbs_int, AB.fInt_int, AB.fInt_bool, AB.fMax2_int, AB.fMin2_int, AB.fLen_scr, AB.fLen_lst, AB.fLen_tup, AB.fLen_str, AB.fTupleOf_lst, AB.fTupleOf_tup, AB.fListOf_lst, AB.fListOf_tup, AB.fSum_lst, AB.fSum_tup, AB.fLstRev_lst, AB.fEq_eq, AB.fNe_eq, AB.on2_ss, AB.on1_s, AB.look_dat, AB.eqv_ii, AB.eqv_bb, AB.eqv_ss, AB.shaped_int, AB.shaped_b, AB.shaped_non, AB.isD_int_non, AB.isD_int_bl, AB.isD_int_int, AB.isD_int_str, AB.isD_int_lst, AB.isD_int_tup, AB.isD_bool_non, AB.isD_bool_bl, AB.isD_bool_int, AB.isD_bool_str, AB.isD_bool_lst, AB.isD_bool_tup, AB.isD_list_non, AB.isD_list_bl, AB.isD_list_int, AB.isD_list_str, AB.isD_list_lst, AB.isD_list_tup, AB.isD_tuple_non, AB.isD_tuple_bl, AB.isD_tuple_int, AB.isD_tuple_str, AB.isD_tuple_lst, AB.isD_tuple_tup, AB.isD_str_non, AB.isD_str_bl, AB.isD_str_int, AB.isD_str_str, AB.isD_str_lst, AB.isD_str_tup, List.map_cons, List.map_nil, List.length_cons, List.length_nil, List.replicate_succ, List.replicate_zero, List.cons_append, List.nil_append, List.append_nil, List.set_cons_zero, List.set_cons_succ, List.set_nil, List.getElem?_cons_zero, List.getElem?_cons_succ, List.getElem?_nil, Nat.sub_self, Nat.reduceAdd, Nat.reduceSub, Nat.zero_add, Nat.add_zero, Bool.false_eq_true, if_false, if_true, Bool.not_true, Bool.not_false, reduceIte]
  refine ⟨by decide, by decide, by decide, by decide, by decide, by decide, by decide, by decide, by decide, rfl, by decide, fun k acc => acc = [], rfl, ?_, ?_⟩
  · rintro k d acc hd rfl
    have hf : ∃ a b, d = .tuple [a, b] ∧ flatD a = true ∧ flatD b = true ∧ (isNum a 0 4000 = false ∨ ∀ i, b ≠ .int i) := by
      match k, hd with
      | 0, hd => cases hd; exact ⟨_, _, rfl, rfl, rfl, .inl rfl⟩
      | 1, hd => cases hd; exact ⟨_, _, rfl, rfl, rfl, .inl rfl⟩
      | 2, hd => cases hd; exact ⟨_, _, rfl, rfl, rfl, .inl rfl⟩
      | 3, hd => cases hd; exact ⟨_, _, rfl, rfl, rfl, .inl rfl⟩
      | 4, hd => cases hd; exact ⟨_, _, rfl, rfl, rfl, .inl rfl⟩
      | 5, hd => cases hd; exact ⟨_, _, rfl, rfl, rfl, .inr fun i => PyData.noConfusion⟩
      | 6, hd => cases hd; exact ⟨_, _, rfl, rfl, rfl, .inr fun i => PyData.noConfusion⟩
      | 7, hd => cases hd; exact ⟨_, _, rfl, rfl, rfl, .inr fun i => PyData.noConfusion⟩
    obtain ⟨a, b, rfl, fa, fb, hbad⟩ := hf
    simp only [a_law_11, AB.aSeq, AB.aDrop, AB.aRet, AB.aRetN, AB.aRetV, AB.aBrk, AB.aCt, AB.aApp, AB.aAug, AB.aRaise, AB.aPar, AB.aPar3, AB.aAsgT, AB.aNext, AB.aC, AB.aOp2, AB.aUn, AB.aNil, AB.aCons, AB.aCB, AB.aTru, AB.aAndV, AB.aOrV, AB.aNotV, AB.aChain, AB.aNoPart, AB.aPart, AB.aSl, AB.aTup, AB.aLst, AB.aCall, AB.aCallR, AB.aIsi, AB.aLc, AB.aFor, AB.aWhile, AB.aiR1, AB.aiR2, AB.aiR3, AB.aiU, AB.aiU.on1', AB.aiE, AB.agName, AB.agNil, AB.agCons, AB.agTup, AB.aTold, AB.aDrw, AB.aListR1, AB.aListR2, AB.aYes, AB.lookAll, AB.datAll, AB.startS, AB.startR, AB.endA, AB.endR, AB.itemsD, AB.noOwn, AB.wipeS, AB.isNoneD, AB.truD, AB.truOk, Bool.not_true, Bool.not_false, AB.aVar_eq, AB.aFrz_eq, AB.varK_val, AB.varK_lst, AB.varK_drw, AB.frzSK_lst, AB.frzSK_val, AB.look_ali, AB.aliK_lst, AB.frz_eq, AB.frzR_eq, AB.toR_eq, AB.aTB_eq, AB.aAsg_eq, AB.aIfS_eq, AB.aNotT_eq, AB.aAndT_eq, AB.aOrT_eq, AB.aIf_eq, AB.frzK_dat, AB.frzK_new, AB.frzRK_dat, AB.frzRK_new, AB.frzRK_drw, AB.toRK_dat, AB.tbK_bool, AB.asgK_dat, AB.asgK_new, AB.asgK_drw, AB.iteK_true, AB.iteK_false, AB.fAdd_int, AB.fAdd_tup, AB.fAdd_lst, AB.fAdd_str, AB.fSub_int, AB.fMul_int, AB.fMul_lst, AB.fDiv_int, AB.fMod_int, AB.fPow_int, AB.fShl_int, AB.fShr_int, AB.fAnd1_int, AB.fCmp_int, AB.fNeg_int, AB.fIs_non, AB.fIsNot_non, AB.fIs_bool, AB.fIsNot_bool, AB.fIx_lst, AB.fIx_tup, AB.fIx_scr, AB.fIx_str, AB.fSl_lst, AB.fSl_tup, AB.fAbs_int, AB.fInt_int, AB.fInt_bool, AB.fMax2_int, AB.fMin2_int, AB.fLen_scr, AB.fLen_lst, AB.fLen_tup, AB.fLen_str, AB.fTupleOf_lst, AB.fTupleOf_tup, AB.fListOf_lst, AB.fListOf_tup, AB.fSum_lst, AB.fSum_tup, AB.fLstRev_lst, AB.fEq_eq, AB.fNe_eq, AB.on2_ss, AB.on1_s, AB.look_dat, AB.eqv_ii, AB.eqv_bb, AB.eqv_ss, AB.shaped_int, AB.shaped_b, AB.shaped_non, AB.isD_int_non, AB.isD_int_bl, AB.isD_int_int, AB.isD_int_str, AB.isD_int_lst, AB.isD_int_tup, AB.isD_bool_non, AB.isD_bool_bl, AB.isD_bool_int, AB.isD_bool_str, AB.isD_bool_lst, AB.isD_bool_tup, AB.isD_list_non, AB.isD_list_bl, AB.isD_list_int, AB.isD_list_str, AB.isD_list_lst, AB.isD_list_tup, AB.isD_tuple_non, AB.isD_tuple_bl, AB.isD_tuple_int, AB.isD_tuple_str, AB.isD_tuple_lst, AB.isD_tuple_tup, AB.isD_str_non, AB.isD_str_bl, AB.isD_str_int, AB.isD_str_str, AB.isD_str_lst, AB.isD_str_tup, List.map_cons, List.map_nil, List.length_cons, List.length_nil, List.replicate_succ, List.replicate_zero, List.cons_append, List.nil_append, List.append_nil, List.set_cons_zero, List.set_cons_succ, List.set_nil, List.getElem?_cons_zero, List.getElem?_cons_succ, List.getElem?_nil, Nat.sub_self, Nat.reduceAdd, Nat.reduceSub, Nat.zero_add, Nat.add_zero, Bool.false_eq_true, if_false, if_true, Bool.not_true, Bool.not_false, reduceIte]
    refine ⟨a, rfl, ?_⟩
    try simp only [AB.aSeq, AB.aDrop, AB.aRet, AB.aRetN, AB.aRetV, AB.aBrk, AB.aCt, AB.aApp, AB.aAug, AB.aRaise, AB.aPar, AB.aPar3, AB.aAsgT, AB.aNext, AB.aC, AB.aOp2, AB.aUn, AB.aNil, AB.aCons, AB.aCB, AB.aTru, AB.aAndV, AB.aOrV, AB.aNotV, AB.aChain, AB.aNoPart, AB.aPart, AB.aSl, AB.aTup, AB.aLst, AB.aCall, AB.aCallR, AB.aIsi, AB.aLc, AB.aFor, AB.aWhile, AB.aiR1, AB.aiR2, AB.aiR3, AB.aiU, AB.aiU.on1', AB.aiE, AB.agName, AB.agNil, AB.agCons, AB.agTup, AB.aTold, AB.aDrw, AB.aListR1, AB.aListR2, AB.aYes, AB.lookAll, AB.datAll, AB.startS, AB.startR, AB.endA, AB.endR, AB.itemsD, AB.noOwn, AB.wipeS, AB.isNoneD, AB.truD, AB.truOk, Bool.not_true, Bool.not_false, AB.aVar_eq, AB.aFrz_eq, AB.varK_val, AB.varK_lst, AB.varK_drw, AB.frzSK_lst, AB.frzSK_val, AB.look_ali, AB.aliK_lst, AB.frz_eq, AB.frzR_eq, AB.toR_eq, AB.aTB_eq, AB.aAsg_eq, AB.aIfS_eq, AB.aNotT_eq, AB.aAndT_eq, AB.aOrT_eq, AB.aIf_eq, AB.frzK_dat, AB.frzK_new, AB.frzRK_dat, AB.frzRK_new, AB.frzRK_drw, AB.toRK_dat, AB.tbK_bool, AB.asgK_dat, AB.asgK_new, AB.asgK_drw, AB.iteK_true, AB.iteK_false, AB.fAdd_int, AB.fAdd_tup, AB.fAdd_lst, AB.fAdd_str, AB.fSub_int, AB.fMul_int, AB.fMul_lst, AB.fDiv_int, AB.fMod_int, AB.fPow_int, AB.fShl_int, AB.fShr_int, AB.fAnd1_int, AB.fCmp_int, AB.fNeg_int, AB.fIs_non, AB.fIsNot_non, AB.fIs_bool, AB.fIsNot_bool, AB.fIx_lst, AB.fIx_tup, AB.fIx_scr, AB.fIx_str, AB.fSl_lst, AB.fSl_tup, AB.fAbs_int, AB.fInt_int, AB.fInt_bool, AB.fMax2_int, AB.fMin2_int, AB.fLen_scr, AB.fLen_lst, AB.fLen_tup, AB.fLen_str, AB.fTupleOf_lst, AB.fTupleOf_tup, AB.fListOf_lst, AB.fListOf_tup, AB.fSum_lst, AB.fSum_tup, AB.fLstRev_lst, AB.fEq_eq, AB.fNe_eq, AB.on2_ss, AB.on1_s, AB.look_dat, AB.eqv_ii, AB.eqv_bb, AB.eqv_ss, AB.shaped_int, AB.shaped_b, AB.shaped_non, AB.isD_int_non, AB.isD_int_bl, AB.isD_int_int, AB.isD_int_str, AB.isD_int_lst, AB.isD_int_tup, AB.isD_bool_non, AB.isD_bool_bl, AB.isD_bool_int, AB.isD_bool_str, AB.isD_bool_lst, AB.isD_bool_tup, AB.isD_list_non, AB.isD_list_bl, AB.isD_list_int, AB.isD_list_str, AB.isD_list_lst, AB.isD_list_tup, AB.isD_tuple_non, AB.isD_tuple_bl, AB.isD_tuple_int, AB.isD_tuple_str, AB.isD_tuple_lst, AB.isD_tuple_tup, AB.isD_str_non, AB.isD_str_bl, AB.isD_str_int, AB.isD_str_str, AB.isD_str_lst, AB.isD_str_tup, List.map_cons, List.map_nil, List.length_cons, List.length_nil, List.replicate_succ, List.replicate_zero, List.cons_append, List.nil_append, List.append_nil, List.set_cons_zero, List.set_cons_succ, List.set_nil, List.getElem?_cons_zero, List.getElem?_cons_succ, List.getElem?_nil, Nat.sub_self, Nat.reduceAdd, Nat.reduceSub, Nat.zero_add, Nat.add_zero, Bool.false_eq_true, if_false, if_true, Bool.not_true, Bool.not_false, reduceIte]
    refine ⟨b, rfl, ?_⟩
    try simp only [AB.aSeq, AB.aDrop, AB.aRet, AB.aRetN, AB.aRetV, AB.aBrk, AB.aCt, AB.aApp, AB.aAug, AB.aRaise, AB.aPar, AB.aPar3, AB.aAsgT, AB.aNext, AB.aC, AB.aOp2, AB.aUn, AB.aNil, AB.aCons, AB.aCB, AB.aTru, AB.aAndV, AB.aOrV, AB.aNotV, AB.aChain, AB.aNoPart, AB.aPart, AB.aSl, AB.aTup, AB.aLst, AB.aCall, AB.aCallR, AB.aIsi, AB.aLc, AB.aFor, AB.aWhile, AB.aiR1, AB.aiR2, AB.aiR3, AB.aiU, AB.aiU.on1', AB.aiE, AB.agName, AB.agNil, AB.agCons, AB.agTup, AB.aTold, AB.aDrw, AB.aListR1, AB.aListR2, AB.aYes, AB.lookAll, AB.datAll, AB.startS, AB.startR, AB.endA, AB.endR, AB.itemsD, AB.noOwn, AB.wipeS, AB.isNoneD, AB.truD, AB.truOk, Bool.not_true, Bool.not_false, AB.aVar_eq, AB.aFrz_eq, AB.varK_val, AB.varK_lst, AB.varK_drw, AB.frzSK_lst, AB.frzSK_val, AB.look_ali, AB.aliK_lst, AB.frz_eq, AB.frzR_eq, AB.toR_eq, AB.aTB_eq, AB.aAsg_eq, AB.aIfS_eq, AB.aNotT_eq, AB.aAndT_eq, AB.aOrT_eq, AB.aIf_eq, AB.frzK_dat, AB.frzK_new, AB.frzRK_dat, AB.frzRK_new, AB.frzRK_drw, AB.toRK_dat, AB.tbK_bool, AB.asgK_dat, AB.asgK_new, AB.asgK_drw, AB.iteK_true, AB.iteK_false, AB.fAdd_int, AB.fAdd_tup, AB.fAdd_lst, AB.fAdd_str, AB.fSub_int, AB.fMul_int, AB.fMul_lst, AB.fDiv_int, AB.fMod_int, AB.fPow_int, AB.fShl_int, AB.fShr_int, AB.fAnd1_int, AB.fCmp_int, AB.fNeg_int, AB.fIs_non, AB.fIsNot_non, AB.fIs_bool, AB.fIsNot_bool, AB.fIx_lst, AB.fIx_tup, AB.fIx_scr, AB.fIx_str, AB.fSl_lst, AB.fSl_tup, AB.fAbs_int, AB.fInt_int, AB.fInt_bool, AB.fMax2_int, AB.fMin2_int, AB.fLen_scr, AB.fLen_lst, AB.fLen_tup, AB.fLen_str, AB.fTupleOf_lst, AB.fTupleOf_tup, AB.fListOf_lst, AB.fListOf_tup, AB.fSum_lst, AB.fSum_tup, AB.fLstRev_lst, AB.fEq_eq, AB.fNe_eq, AB.on2_ss, AB.on1_s, AB.look_dat, AB.eqv_ii, AB.eqv_bb, AB.eqv_ss, AB.shaped_int, AB.shaped_b, AB.shaped_non, AB.isD_int_non, AB.isD_int_bl, AB.isD_int_int, AB.isD_int_str, AB.isD_int_lst, AB.isD_int_tup, AB.isD_bool_non, AB.isD_bool_bl, AB.isD_bool_int, AB.isD_bool_str, AB.isD_bool_lst, AB.isD_bool_tup, AB.isD_list_non, AB.isD_list_bl, AB.isD_list_int, AB.isD_list_str, AB.isD_list_lst, AB.isD_list_tup, AB.isD_tuple_non, AB.isD_tuple_bl, AB.isD_tuple_int, AB.isD_tuple_str, AB.isD_tuple_lst, AB.isD_tuple_tup, AB.isD_str_non, AB.isD_str_bl, AB.isD_str_int, AB.isD_str_str, AB.isD_str_lst, AB.isD_str_tup, List.map_cons, List.map_nil, List.length_cons, List.length_nil, List.replicate_succ, List.replicate_zero, List.cons_append, List.nil_append, List.append_nil, List.set_cons_zero, List.set_cons_succ, List.set_nil, List.getElem?_cons_zero, List.getElem?_cons_succ, List.getElem?_nil, Nat.sub_self, Nat.reduceAdd, Nat.reduceSub, Nat.zero_add, Nat.add_zero, Bool.false_eq_true, if_false, if_true, Bool.not_true, Bool.not_false, reduceIte]
    refine .inr (.inl ⟨a, b, .none, rfl, fa, fb, hbad, ?_⟩)
    try simp only [AB.aSeq, AB.aDrop, AB.aRet, AB.aRetN, AB.aRetV, AB.aBrk, AB.aCt, AB.aApp, AB.aAug, AB.aRaise, AB.aPar, AB.aPar3, AB.aAsgT, AB.aNext, AB.aC, AB.aOp2, AB.aUn, AB.aNil, AB.aCons, AB.aCB, AB.aTru, AB.aAndV, AB.aOrV, AB.aNotV, AB.aChain, AB.aNoPart, AB.aPart, AB.aSl, AB.aTup, AB.aLst, AB.aCall, AB.aCallR, AB.aIsi, AB.aLc, AB.aFor, AB.aWhile, AB.aiR1, AB.aiR2, AB.aiR3, AB.aiU, AB.aiU.on1', AB.aiE, AB.agName, AB.agNil, AB.agCons, AB.agTup, AB.aTold, AB.aDrw, AB.aListR1, AB.aListR2, AB.aYes, AB.lookAll, AB.datAll, AB.startS, AB.startR, AB.endA, AB.endR, AB.itemsD, AB.noOwn, AB.wipeS, AB.isNoneD, AB.truD, AB.truOk, Bool.not_true, Bool.not_false, AB.aVar_eq, AB.aFrz_eq, AB.varK_val, AB.varK_lst, AB.varK_drw, AB.frzSK_lst, AB.frzSK_val, AB.look_ali, AB.aliK_lst, AB.frz_eq, AB.frzR_eq, AB.toR_eq, AB.aTB_eq, AB.aAsg_eq, AB.aIfS_eq, AB.aNotT_eq, AB.aAndT_eq, AB.aOrT_eq, AB.aIf_eq, AB.frzK_dat, AB.frzK_new, AB.frzRK_dat, AB.frzRK_new, AB.frzRK_drw, AB.toRK_dat, AB.tbK_bool, AB.asgK_dat, AB.asgK_new, AB.asgK_drw, AB.iteK_true, AB.iteK_false, AB.fAdd_int, AB.fAdd_tup, AB.fAdd_lst, AB.fAdd_str, AB.fSub_int, AB.fMul_int, AB.fMul_lst, AB.fDiv_int, AB.fMod_int, AB.fPow_int, AB.fShl_int, AB.fShr_int, AB.fAnd1_int, AB.fCmp_int, AB.fNeg_int, AB.fIs_non, AB.fIsNot_non, AB.fIs_bool, AB.fIsNot_bool, AB.fIx_lst, AB.fIx_tup, AB.fIx_scr, AB.fIx_str, AB.fSl_lst, AB.fSl_tup, AB.fAbs_int, AB.fInt_int, AB.fInt_bool, AB.fMax2_int, AB.fMin2_int, AB.fLen_scr, AB.fLen_lst, AB.fLen_tup, AB.fLen_str, AB.fTupleOf_lst, AB.fTupleOf_tup, AB.fListOf_lst, AB.fListOf_tup, AB.fSum_lst, AB.fSum_tup, AB.fLstRev_lst, AB.fEq_eq, AB.fNe_eq, AB.on2_ss, AB.on1_s, AB.look_dat, AB.eqv_ii, AB.eqv_bb, AB.eqv_ss, AB.shaped_int, AB.shaped_b, AB.shaped_non, AB.isD_int_non, AB.isD_int_bl, AB.isD_int_int, AB.isD_int_str, AB.isD_int_lst, AB.isD_int_tup, AB.isD_bool_non, AB.isD_bool_bl, AB.isD_bool_int, AB.isD_bool_str, AB.isD_bool_lst, AB.isD_bool_tup, AB.isD_list_non, AB.isD_list_bl, AB.isD_list_int, AB.isD_list_str, AB.isD_list_lst, AB.isD_list_tup, AB.isD_tuple_non, AB.isD_tuple_bl, AB.isD_tuple_int, AB.isD_tuple_str, AB.isD_tuple_lst, AB.isD_tuple_tup, AB.isD_str_non, AB.isD_str_bl, AB.isD_str_int, AB.isD_str_str, AB.isD_str_lst, AB.isD_str_tup, List.map_cons, List.map_nil, List.length_cons, List.length_nil, List.replicate_succ, List.replicate_zero, List.cons_append, List.nil_append, List.append_nil, List.set_cons_zero, List.set_cons_succ, List.set_nil, List.getElem?_cons_zero, List.getElem?_cons_succ, List.getElem?_nil, Nat.sub_self, Nat.reduceAdd, Nat.reduceSub, Nat.zero_add, Nat.add_zero, Bool.false_eq_true, if_false, if_true, Bool.not_true, Bool.not_false, reduceIte]
    exact ⟨by decide +kernel, by decide +kernel, trivial⟩
  · rintro acc rfl
    exact ⟨by decide, rfl, rfl, hp⟩
theorem ch_one (n : Nat) : ch n 1 = n := by
  have z := ch_step n 0
  rw [ch_zero, Nat.zero_add, Nat.one_mul, Nat.mul_one, Nat.sub_zero] at z
  exact z
theorem law_r13 (C : Nat → Addr) (Q : RV → Prop) (Xe : XP) (hp : Q (.dat (.bool true))) (s0 s1 s2 s3 s4 s5 s6 s7 s8 s9 s10 s11 s12 : SV) :
    a_law_r13 C (endA Q Xe) [s0, s1, s2, s3, s4, s5, s6, s7, s8, s9, s10, s11, s12, .no] := by
  simp only [a_law_r13, AB.aSeq, AB.aDrop, AB.aRet, AB.aRetN, AB.aRetV, AB.aBrk, AB.aCt, AB.aApp, AB.aAug, AB.aRaise, AB.aPar, AB.aPar3, AB.aAsgT, AB.aNext, AB.aC, AB.aOp2, AB.aUn, AB.aNil, AB.aCons, AB.aCB, AB.aTru, AB.aAndV, AB.aOrV, AB.aNotV, AB.aChain, AB.aNoPart, AB.aPart, AB.aSl, AB.aTup, AB.aLst, AB.aCall, AB.aCallR, AB.aIsi, AB.aLc, AB.aFor, AB.aWhile, AB.aiR1, AB.aiR2, AB.aiR3, AB.aiU, AB.aiU.on1', AB.aiE, AB.agName, AB.agNil, AB.agCons, AB.agTup, AB.aTold, AB.aDrw, AB.aListR1, AB.aListR2, AB.aYes, AB.lookAll, AB.datAll, AB.startS, AB.startR, AB.endA, AB.endR, AB.itemsD, AB.noOwn, AB.wipeS, AB.isNoneD, AB.truD, AB.truOk, Bool.not_true, Bool.not_false, AB.aVar_eq, AB.aFrz_eq, AB.varK_val, AB.varK_lst, AB.varK_drw, AB.frzSK_lst, AB.frzSK_val, AB.look_ali, AB.aliK_lst, AB.frz_eq, AB.frzR_eq, AB.toR_eq, AB.aTB_eq, AB.aAsg_eq, AB.aIfS_eq, AB.aNotT_eq, AB.aAndT_eq, AB.aOrT_eq, AB.aIf_eq, AB.frzK_dat, AB.frzK_new, AB.frzRK_dat, AB.frzRK_new, AB.frzRK_drw, AB.toRK_dat, AB.tbK_bool, AB.asgK_dat, AB.asgK_new, AB.asgK_drw, AB.iteK_true, AB.iteK_false, AB.fAdd_int, AB.fAdd_tup, AB.fAdd_lst, AB.fAdd_str, AB.fSub_int, AB.fMul_int, AB.fMul_lst, AB.fDiv_int, AB.fMod_int, AB.fPow_int, AB.fShl_int, AB.fShr_int, AB.fAnd1_int, AB.fCmp_int, AB.fNeg_int, AB.fIs_non, AB.fIsNot_non, AB.fIs_bool, AB.fIsNot_bool, AB.fIx_lst, AB.fIx_tup, AB.fIx_scr, AB.fIx_str, AB.fSl_lst, AB.fSl_tup, AB.fAbs_int, AB.fInt_int, AB.fInt_bool, AB.fMax2_int, AB.fMin2_int, AB.fLen_scr, AB.fLen_lst, AB.fLen_tup, AB.fLen_str, AB.fTupleOf_lst, AB.fTupleOf_tup, AB.fListOf_lst, AB.fListOf_tup, AB.fSum_lst, AB.fSum_tup, AB.fLstRev_lst, AB.fEq_eq, AB.fNe_eq, AB.on2_ss, AB.on1_s, AB.look_dat, AB.eqv_ii, AB.eqv_bb, AB.eqv_ss, AB.shaped_int, AB.shaped_b, AB.shaped_non, AB.isD_int_non, AB.isD_int_bl, AB.isD_int_int, AB.isD_int_str, AB.isD_int_lst, AB.isD_int_tup, AB.isD_bool_non, AB.isD_bool_bl, AB.isD_bool_int, AB.isD_bool_str, AB.isD_bool_lst, AB.isD_bool_tup, AB.isD_list_non, AB.isD_list_bl, AB.isD_list_int, AB.isD_list_str, AB.isD_list_lst, AB.isD_list_tup, AB.isD_tuple_non, AB.isD_tuple_bl, AB.isD_tuple_int, AB.isD_tuple_str, AB.isD_tuple_lst, AB.isD_tuple_tup, AB.isD_str_non, AB.isD_str_bl, AB.isD_str_int, AB.isD_str_str, AB.isD_str_lst, AB.isD_str_tup, List.map_cons, List.map_nil, List.length_cons, List.length_nil, List.replicate_succ, List.replicate_zero, List.cons_append, List.nil_append, List.append_nil, List.set_cons_zero, List.set_cons_succ, List.set_nil, List.getElem?_cons_zero, List.getElem?_cons_succ, List.getElem?_nil, Nat.sub_self, Nat.reduceAdd, Nat.reduceSub, Nat.zero_add, Nat.add_zero, Bool.false_eq_true, if_false, if_true, Bool.not_true, Bool.not_false, reduceIte]
  refine ⟨0, 0, rfl, by decide, ?_⟩
  try simp only [AB.aSeq, AB.aDrop, AB.aRet, AB.aRetN, AB.aRetV, AB.aBrk, AB.aCt, AB.aApp, AB.aAug, AB.aRaise, AB.aPar, AB.aPar3, AB.aAsgT, AB.aNext, AB.aC, AB.aOp2, AB.aUn, AB.aNil, AB.aCons, AB.aCB, AB.aTru, AB.aAndV, AB.aOrV, AB.aNotV, AB.aChain, AB.aNoPart, AB.aPart, AB.aSl, AB.aTup, AB.aLst, AB.aCall, AB.aCallR, AB.aIsi, AB.aLc, AB.aFor, AB.aWhile, AB.aiR1, AB.aiR2, AB.aiR3, AB.aiU, AB.aiU.on1', AB.aiE, AB.agName, AB.agNil, AB.agCons, AB.agTup, AB.aTold, AB.aDrw, AB.aListR1, AB.aListR2, AB.aYes, AB.lookAll, AB.datAll, AB.startS, AB.startR, AB.endA, AB.endR, AB.itemsD, AB.noOwn, AB.wipeS, AB.isNoneD, AB.truD, AB.truOk, Bool.not_true, Bool.not_false, AB.aVar_eq, AB.aFrz_eq, AB.varK_val, AB.varK_lst, AB.varK_drw, AB.frzSK_lst, AB.frzSK_val, AB.look_ali, AB.aliK_lst, AB.frz_eq, AB.frzR_eq, AB.toR_eq, AB.aTB_eq, AB.aAsg_eq, AB.aIfS_eq, AB.aNotT_eq, AB.aAndT_eq, AB.aOrT_eq, AB.aIf_eq, AB.frzK_dat, AB.frzK_new, AB.frzRK_dat, AB.frzRK_new, AB.frzRK_drw, AB.toRK_dat, AB.tbK_bool, AB.asgK_dat, AB.asgK_new, AB.asgK_drw, AB.iteK_true, AB.iteK_false, AB.fAdd_int, AB.fAdd_tup, AB.fAdd_lst, AB.fAdd_str, AB.fSub_int, AB.fMul_int, AB.fMul_lst, AB.fDiv_int, AB.fMod_int, AB.fPow_int, AB.fShl_int, AB.fShr_int, AB.fAnd1_int, AB.fCmp_int, AB.fNeg_int, AB.fIs_non, AB.fIsNot_non, AB.fIs_bool, AB.fIsNot_bool, AB.fIx_lst, AB.fIx_tup, AB.fIx_scr, AB.fIx_str, AB.fSl_lst, AB.fSl_tup, AB.fAbs_int, AB.fInt_int, AB.fInt_bool, AB.fMax2_int, AB.fMin2_int, AB.fLen_scr, AB.fLen_lst, AB.fLen_tup, AB.fLen_str, AB.fTupleOf_lst, AB.fTupleOf_tup, AB.fListOf_lst, AB.fListOf_tup, AB.fSum_lst, AB.fSum_tup, AB.fLstRev_lst, AB.fEq_eq, AB.fNe_eq, AB.on2_ss, AB.on1_s, AB.look_dat, AB.eqv_ii, AB.eqv_bb, AB.eqv_ss, AB.shaped_int, AB.shaped_b, AB.shaped_non, AB.isD_int_non, AB.isD_int_bl, AB.isD_int_int, AB.isD_int_str, AB.isD_int_lst, AB.isD_int_tup, AB.isD_bool_non, AB.isD_bool_bl, AB.isD_bool_int, AB.isD_bool_str, AB.isD_bool_lst, AB.isD_bool_tup, AB.isD_list_non, AB.isD_list_bl, AB.isD_list_int, AB.isD_list_str, AB.isD_list_lst, AB.isD_list_tup, AB.isD_tuple_non, AB.isD_tuple_bl, AB.isD_tuple_int, AB.isD_tuple_str, AB.isD_tuple_lst, AB.isD_tuple_tup, AB.isD_str_non, AB.isD_str_bl, AB.isD_str_int, AB.isD_str_str, AB.isD_str_lst, AB.isD_str_tup, List.map_cons, List.map_nil, List.length_cons, List.length_nil, List.replicate_succ, List.replicate_zero, List.cons_append, List.nil_append, List.append_nil, List.set_cons_zero, List.set_cons_succ, List.set_nil, List.getElem?_cons_zero, List.getElem?_cons_succ, List.getElem?_nil, Nat.sub_self, Nat.reduceAdd, Nat.reduceSub, Nat.zero_add, Nat.add_zero, Bool.false_eq_true, if_false, if_true, Bool.not_true, Bool.not_false, reduceIte]
  refine ⟨by decide, ?_⟩
  refine ⟨0, 0, rfl, ?_⟩
  try simp only [AB.aSeq, AB.aDrop, AB.aRet, AB.aRetN, AB.aRetV, AB.aBrk, AB.aCt, AB.aApp, AB.aAug, AB.aRaise, AB.aPar, AB.aPar3, AB.aAsgT, AB.aNext, AB.aC, AB.aOp2, AB.aUn, AB.aNil, AB.aCons, AB.aCB, AB.aTru, AB.aAndV, AB.aOrV, AB.aNotV, AB.aChain, AB.aNoPart, AB.aPart, AB.aSl, AB.aTup, AB.aLst, AB.aCall, AB.aCallR, AB.aIsi, AB.aLc, AB.aFor, AB.aWhile, AB.aiR1, AB.aiR2, AB.aiR3, AB.aiU, AB.aiU.on1', AB.aiE, AB.agName, AB.agNil, AB.agCons, AB.agTup, AB.aTold, AB.aDrw, AB.aListR1, AB.aListR2, AB.aYes, AB.lookAll, AB.datAll, AB.startS, AB.startR, AB.endA, AB.endR, AB.itemsD, AB.noOwn, AB.wipeS, AB.isNoneD, AB.truD, AB.truOk, Bool.not_true, Bool.not_false, AB.aVar_eq, AB.aFrz_eq, AB.varK_val, AB.varK_lst, AB.varK_drw, AB.frzSK_lst, AB.frzSK_val, AB.look_ali, AB.aliK_lst, AB.frz_eq, AB.frzR_eq, AB.toR_eq, AB.aTB_eq, AB.aAsg_eq, AB.aIfS_eq, AB.aNotT_eq, AB.aAndT_eq, AB.aOrT_eq, AB.aIf_eq, AB.frzK_dat, AB.frzK_new, AB.frzRK_dat, AB.frzRK_new, AB.frzRK_drw, AB.toRK_dat, AB.tbK_bool, AB.asgK_dat, AB.asgK_new, AB.asgK_drw, AB.iteK_true, AB.iteK_false, AB.fAdd_int, AB.fAdd_tup, AB.fAdd_lst, AB.fAdd_str, AB.fSub_int, AB.fMul_int, AB.fMul_lst, AB.fDiv_int, AB.fMod_int, AB.fPow_int, AB.fShl_int, AB.fShr_int, AB.fAnd1_int, AB.fCmp_int, AB.fNeg_int, AB.fIs_non, AB.fIsNot_non, AB.fIs_bool, AB.fIsNot_bool, AB.fIx_lst, AB.fIx_tup, AB.fIx_scr, AB.fIx_str, AB.fSl_lst, AB.fSl_tup, AB.fAbs_int, AB.fInt_int, AB.fInt_bool, AB.fMax2_int, AB.fMin2_int, AB.fLen_scr, AB.fLen_lst, AB.fLen_tup, AB.fLen_str, AB.fTupleOf_lst, AB.fTupleOf_tup, AB.fListOf_lst, AB.fListOf_tup, AB.fSum_lst, AB.fSum_tup, AB.fLstRev_lst, AB.fEq_eq, AB.fNe_eq, AB.on2_ss, AB.on1_s, AB.look_dat, AB.eqv_ii, AB.eqv_bb, AB.eqv_ss, AB.shaped_int, AB.shaped_b, AB.shaped_non, AB.isD_int_non, AB.isD_int_bl, AB.isD_int_int, AB.isD_int_str, AB.isD_int_lst, AB.isD_int_tup, AB.isD_bool_non, AB.isD_bool_bl, AB.isD_bool_int, AB.isD_bool_str, AB.isD_bool_lst, AB.isD_bool_tup, AB.isD_list_non, AB.isD_list_bl, AB.isD_list_int, AB.isD_list_str, AB.isD_list_lst, AB.isD_list_tup, AB.isD_tuple_non, AB.isD_tuple_bl, AB.isD_tuple_int, AB.isD_tuple_str, AB.isD_tuple_lst, AB.isD_tuple_tup, AB.isD_str_non, AB.isD_str_bl, AB.isD_str_int, AB.isD_str_str, AB.isD_str_lst, AB.isD_str_tup, List.map_cons, List.map_nil, List.length_cons, List.length_nil, List.replicate_succ, List.replicate_zero, List.cons_append, List.nil_append, List.append_nil, List.set_cons_zero, List.set_cons_succ, List.set_nil, List.getElem?_cons_zero, List.getElem?_cons_succ, List.getElem?_nil, Nat.sub_self, Nat.reduceAdd, Nat.reduceSub, Nat.zero_add, Nat.add_zero, Bool.false_eq_true, if_false, if_true, Bool.not_true, Bool.not_false, reduceIte]
  refine .inl ⟨4000, 1, rfl, by decide, ?_⟩
  try simp only [AB.aSeq, AB.aDrop, AB.aRet, AB.aRetN, AB.aRetV, AB.aBrk, AB.aCt, AB.aApp, AB.aAug, AB.aRaise, AB.aPar, AB.aPar3, AB.aAsgT, AB.aNext, AB.aC, AB.aOp2, AB.aUn, AB.aNil, AB.aCons, AB.aCB, AB.aTru, AB.aAndV, AB.aOrV, AB.aNotV, AB.aChain, AB.aNoPart, AB.aPart, AB.aSl, AB.aTup, AB.aLst, AB.aCall, AB.aCallR, AB.aIsi, AB.aLc, AB.aFor, AB.aWhile, AB.aiR1, AB.aiR2, AB.aiR3, AB.aiU, AB.aiU.on1', AB.aiE, AB.agName, AB.agNil, AB.agCons, AB.agTup, AB.aTold, AB.aDrw, AB.aListR1, AB.aListR2, AB.aYes, AB.lookAll, AB.datAll, AB.startS, AB.startR, AB.endA, AB.endR, AB.itemsD, AB.noOwn, AB.wipeS, AB.isNoneD, AB.truD, AB.truOk, Bool.not_true, Bool.not_false, AB.aVar_eq, AB.aFrz_eq, AB.varK_val, AB.varK_lst, AB.varK_drw, AB.frzSK_lst, AB.frzSK_val, AB.look_ali, AB.aliK_lst, AB.frz_eq, AB.frzR_eq, AB.toR_eq, AB.aTB_eq, AB.aAsg_eq, AB.aIfS_eq, AB.aNotT_eq, AB.aAndT_eq, AB.aOrT_eq, AB.aIf_eq, AB.frzK_dat, AB.frzK_new, AB.frzRK_dat, AB.frzRK_new, AB.frzRK_drw, AB.toRK_dat, AB.tbK_bool, AB.asgK_dat, AB.asgK_new, AB.asgK_drw, AB.iteK_true, AB.iteK_false, AB.fAdd_int, AB.fAdd_tup, AB.fAdd_lst, AB.fAdd_str, AB.fSub_int, AB.fMul_int, AB.fMul_lst, AB.fDiv_int, AB.fMod_int, AB.fPow_int, AB.fShl_int, AB.fShr_int, AB.fAnd1_int, AB.fCmp_int, AB.fNeg_int, AB.fIs_non, AB.fIsNot_non, AB.fIs_bool, AB.fIsNot_bool, AB.fIx_lst, AB.fIx_tup, AB.fIx_scr, AB.fIx_str, AB.fSl_lst, AB.fSl_tup, AB.fAbs_int, AB.fInt_int, AB.fInt_bool, AB.fMax2_int, AB.fMin2_int, AB.fLen_scr, AB.fLen_lst, AB.fLen_tup, AB.fLen_str, AB.fTupleOf_lst, AB.fTupleOf_tup, AB.fListOf_lst, AB.fListOf_tup, AB.fSum_lst, AB.fSum_tup, AB.fLstRev_lst, AB.fEq_eq, AB.fNe_eq, AB.on2_ss, AB.on1_s, AB.look_dat, AB.eqv_ii, AB.eqv_bb, AB.eqv_ss, AB.shaped_int, AB.shaped_b, AB.shaped_non, AB.isD_int_non, AB.isD_int_bl, AB.isD_int_int, AB.isD_int_str, AB.isD_int_lst, AB.isD_int_tup, AB.isD_bool_non, AB.isD_bool_bl, AB.isD_bool_int, AB.isD_bool_str, AB.isD_bool_lst, AB.isD_bool_tup, AB.isD_list_non, AB.isD_list_bl, AB.isD_list_int, AB.isD_list_str, AB.isD_list_lst, AB.isD_list_tup, AB.isD_tuple_non, AB.isD_tuple_bl, AB.isD_tuple_int, AB.isD_tuple_str, AB.isD_tuple_lst, AB.isD_tuple_tup, AB.isD_str_non, AB.isD_str_bl, AB.isD_str_int, AB.isD_str_str, AB.isD_str_lst, AB.isD_str_tup, List.map_cons, List.map_nil, List.length_cons, List.length_nil, List.replicate_succ, List.replicate_zero, List.cons_append, List.nil_append, List.append_nil, List.set_cons_zero, List.set_cons_succ, List.set_nil, List.getElem?_cons_zero, List.getElem?_cons_succ, List.getElem?_nil, Nat.sub_self, Nat.reduceAdd, Nat.reduceSub, Nat.zero_add, Nat.add_zero, Bool.false_eq_true, if_false, if_true, Bool.not_true, Bool.not_false, reduceIte]
  refine .inl ⟨4000, 4000, rfl, by decide, ?_⟩
  try simp only [AB.aSeq, AB.aDrop, AB.aRet, AB.aRetN, AB.aRetV, AB.aBrk, AB.aCt, AB.aApp, AB.aAug, AB.aRaise, AB.aPar, AB.aPar3, AB.aAsgT, AB.aNext, AB.aC, AB.aOp2, AB.aUn, AB.aNil, AB.aCons, AB.aCB, AB.aTru, AB.aAndV, AB.aOrV, AB.aNotV, AB.aChain, AB.aNoPart, AB.aPart, AB.aSl, AB.aTup, AB.aLst, AB.aCall, AB.aCallR, AB.aIsi, AB.aLc, AB.aFor, AB.aWhile, AB.aiR1, AB.aiR2, AB.aiR3, AB.aiU, AB.aiU.on1', AB.aiE, AB.agName, AB.agNil, AB.agCons, AB.agTup, AB.aTold, AB.aDrw, AB.aListR1, AB.aListR2, AB.aYes, AB.lookAll, AB.datAll, AB.startS, AB.startR, AB.endA, AB.endR, AB.itemsD, AB.noOwn, AB.wipeS, AB.isNoneD, AB.truD, AB.truOk, Bool.not_true, Bool.not_false, AB.aVar_eq, AB.aFrz_eq, AB.varK_val, AB.varK_lst, AB.varK_drw, AB.frzSK_lst, AB.frzSK_val, AB.look_ali, AB.aliK_lst, AB.frz_eq, AB.frzR_eq, AB.toR_eq, AB.aTB_eq, AB.aAsg_eq, AB.aIfS_eq, AB.aNotT_eq, AB.aAndT_eq, AB.aOrT_eq, AB.aIf_eq, AB.frzK_dat, AB.frzK_new, AB.frzRK_dat, AB.frzRK_new, AB.frzRK_drw, AB.toRK_dat, AB.tbK_bool, AB.asgK_dat, AB.asgK_new, AB.asgK_drw, AB.iteK_true, AB.iteK_false, AB.fAdd_int, AB.fAdd_tup, AB.fAdd_lst, AB.fAdd_str, AB.fSub_int, AB.fMul_int, AB.fMul_lst, AB.fDiv_int, AB.fMod_int, AB.fPow_int, AB.fShl_int, AB.fShr_int, AB.fAnd1_int, AB.fCmp_int, AB.fNeg_int, AB.fIs_non, AB.fIsNot_non, AB.fIs_bool, AB.fIsNot_bool, AB.fIx_lst, AB.fIx_tup, AB.fIx_scr, AB.fIx_str, AB.fSl_lst, AB.fSl_tup, AB.fAbs_int, AB.fInt_int, AB.fInt_bool, AB.fMax2_int, AB.fMin2_int, AB.fLen_scr, AB.fLen_lst, AB.fLen_tup, AB.fLen_str, AB.fTupleOf_lst, AB.fTupleOf_tup, AB.fListOf_lst, AB.fListOf_tup, AB.fSum_lst, AB.fSum_tup, AB.fLstRev_lst, AB.fEq_eq, AB.fNe_eq, AB.on2_ss, AB.on1_s, AB.look_dat, AB.eqv_ii, AB.eqv_bb, AB.eqv_ss, AB.shaped_int, AB.shaped_b, AB.shaped_non, AB.isD_int_non, AB.isD_int_bl, AB.isD_int_int, AB.isD_int_str, AB.isD_int_lst, AB.isD_int_tup, AB.isD_bool_non, AB.isD_bool_bl, AB.isD_bool_int, AB.isD_bool_str, AB.isD_bool_lst, AB.isD_bool_tup, AB.isD_list_non, AB.isD_list_bl, AB.isD_list_int, AB.isD_list_str, AB.isD_list_lst, AB.isD_list_tup, AB.isD_tuple_non, AB.isD_tuple_bl, AB.isD_tuple_int, AB.isD_tuple_str, AB.isD_tuple_lst, AB.isD_tuple_tup, AB.isD_str_non, AB.isD_str_bl, AB.isD_str_int, AB.isD_str_str, AB.isD_str_lst, AB.isD_str_tup, List.map_cons, List.map_nil, List.length_cons, List.length_nil, List.replicate_succ, List.replicate_zero, List.cons_append, List.nil_append, List.append_nil, List.set_cons_zero, List.set_cons_succ, List.set_nil, List.getElem?_cons_zero, List.getElem?_cons_succ, List.getElem?_nil, Nat.sub_self, Nat.reduceAdd, Nat.reduceSub, Nat.zero_add, Nat.add_zero, Bool.false_eq_true, if_false, if_true, Bool.not_true, Bool.not_false, reduceIte]
  have e1 : chI 4000 1 = 4000 := (chI_nat (l := 4000) (k := 1)).trans (ch_one 4000)
  have e2 : chI 4000 4000 = 1 := (chI_nat (l := 4000) (k := 4000)).trans (ch_self 4000)
  rw [e1, e2]
  refine ⟨by decide, by decide, by decide, ?_⟩
  refine ⟨_, rfl, ?_, ?_⟩
  · rfl
  · simp only [AB.aSeq, AB.aDrop, AB.aRet, AB.aRetN, AB.aRetV, AB.aBrk, AB.aCt, AB.aApp, AB.aAug, AB.aRaise, AB.aPar, AB.aPar3, AB.aAsgT, AB.aNext, AB.aC, AB.aOp2, AB.aUn, AB.aNil, AB.aCons, AB.aCB, AB.aTru, AB.aAndV, AB.aOrV, AB.aNotV, AB.aChain, AB.aNoPart, AB.aPart, AB.aSl, AB.aTup, AB.aLst, AB.aCall, AB.aCallR, AB.aIsi, AB.aLc, AB.aFor, AB.aWhile, AB.aiR1, AB.aiR2, AB.aiR3, AB.aiU, AB.aiU.on1', AB.aiE, AB.agName, AB.agNil, AB.agCons, AB.agTup, AB.aTold, AB.aDrw, AB.aListR1, AB.aListR2, AB.aYes, AB.lookAll, AB.datAll, AB.startS, AB.startR, AB.endA, AB.endR, AB.itemsD, AB.noOwn, AB.wipeS, AB.isNoneD, AB.truD, AB.truOk, Bool.not_true, Bool.not_false, AB.aVar_eq, AB.aFrz_eq, AB.varK_val, AB.varK_lst, AB.varK_drw, AB.frzSK_lst, AB.frzSK_val, AB.look_ali, AB.aliK_lst, AB.frz_eq, AB.frzR_eq, AB.toR_eq, AB.aTB_eq, AB.aAsg_eq, AB.aIfS_eq, AB.aNotT_eq, AB.aAndT_eq, AB.aOrT_eq, AB.aIf_eq, AB.frzK_dat, AB.frzK_new, AB.frzRK_dat, AB.frzRK_new, AB.frzRK_drw, AB.toRK_dat, AB.tbK_bool, AB.asgK_dat, AB.asgK_new, AB.asgK_drw, AB.iteK_true, AB.iteK_false, AB.fAdd_int, AB.fAdd_tup, AB.fAdd_lst, AB.fAdd_str, AB.fSub_int, AB.fMul_int, AB.fMul_lst, AB.fDiv_int, AB.fMod_int, AB.fPow_int, AB.fShl_int, AB.fShr_int, AB.fAnd1_int, AB.fCmp_int, AB.fNeg_int, AB.fIs_non, AB.fIsNot_non, AB.fIs_bool, AB.fIsNot_bool, AB.fIx_lst, AB.fIx_tup, AB.fIx_scr, AB.fIx_str, AB.fSl_lst, AB.fSl_tup, AB.fAbs_int, AB.fInt_int, AB.fInt_bool, AB.fMax2_int, AB.fMin2_int, AB.fLen_scr, AB.fLen_lst, AB.fLen_tup, AB.fLen_str, AB.fTupleOf_lst, AB.fTupleOf_tup, AB.fListOf_lst, AB.fListOf_tup, AB.fSum_lst, AB.fSum_tup, AB.fLstRev_lst, AB.fEq_eq, AB.fNe_eq, AB.on2_ss, AB.on1_s, AB.look_dat, AB.eqv_ii, AB.eqv_bb, AB.eqv_ss, AB.shaped_int, AB.shaped_b, AB.shaped_non, AB.isD_int_non, AB.isD_int_bl, AB.isD_int_int, AB.isD_int_str, AB.isD_int_lst, AB.isD_int_tup, AB.isD_bool_non, AB.isD_bool_bl, AB.isD_bool_int, AB.isD_bool_str, AB.isD_bool_lst, AB.isD_bool_tup, AB.isD_list_non, AB.isD_list_bl, AB.isD_list_int, AB.isD_list_str, AB.isD_list_lst, AB.isD_list_tup, AB.isD_tuple_non, AB.isD_tuple_bl, AB.isD_tuple_int, AB.isD_tuple_str, AB.isD_tuple_lst, AB.isD_tuple_tup, AB.isD_str_non, AB.isD_str_bl, AB.isD_str_int, AB.isD_str_str, AB.isD_str_lst, AB.isD_str_tup, List.map_cons, List.map_nil, List.length_cons, List.length_nil, List.replicate_succ, List.replicate_zero, List.cons_append, List.nil_append, List.append_nil, List.set_cons_zero, List.set_cons_succ, List.set_nil, List.getElem?_cons_zero, List.getElem?_cons_succ, List.getElem?_nil, Nat.sub_self, Nat.reduceAdd, Nat.reduceSub, Nat.zero_add, Nat.add_zero, Bool.false_eq_true, if_false, if_true, Bool.not_true, Bool.not_false, reduceIte]
    exact law_r12 Q Xe hp _ _ _ _ _ _ _ _ _ _ _ _ _
theorem law_r14 (C : Nat → Addr) (Q : RV → Prop) (Xe : XP) (hp : Q (.dat (.bool true))) (s0 s1 s2 s3 s4 s5 s6 s7 s8 s9 s10 s11 s12 : SV) (h9 : noOwnB s9 = true) :
    a_law_r14 C (endA Q Xe) [s0, s1, s2, s3, s4, s5, s6, s7, s8, s9, s10, s11, s12, .no] := by
  simp only [a_law_r14, AB.aSeq, AB.aDrop, AB.aRet, AB.aRetN, AB.aRetV, AB.aBrk, AB.aCt, AB.aApp, AB.aAug, AB.aRaise, AB.aPar, AB.aPar3, AB.aAsgT, AB.aNext, AB.aC, AB.aOp2, AB.aUn, AB.aNil, AB.aCons, AB.aCB, AB.aTru, AB.aAndV, AB.aOrV, AB.aNotV, AB.aChain, AB.aNoPart, AB.aPart, AB.aSl, AB.aTup, AB.aLst, AB.aCall, AB.aCallR, AB.aIsi, AB.aLc, AB.aFor, AB.aWhile, AB.aiR1, AB.aiR2, AB.aiR3, AB.aiU, AB.aiU.on1', AB.aiE, AB.agName, AB.agNil, AB.agCons, AB.agTup, AB.aTold, AB.aDrw, AB.aListR1, AB.aListR2, AB.aYes, AB.lookAll, AB.datAll, AB.startS, AB.startR, AB.endA, AB.endR, AB.itemsD, AB.noOwn, AB.wipeS, AB.isNoneD, AB.truD, AB.truOk, Bool.not_true, Bool.not_false, AB.aVar_eq, AB.aFrz_eq, AB.varK_val, AB.varK_lst, AB.varK_drw, AB.frzSK_lst, AB.frzSK_val, AB.look_ali, AB.aliK_lst, AB.frz_eq, AB.frzR_eq, AB.toR_eq, AB.aTB_eq, AB.aAsg_eq, AB.aIfS_eq, AB.aNotT_eq, AB.aAndT_eq, AB.aOrT_eq, AB.aIf_eq, AB.frzK_dat, AB.frzK_new, AB.frzRK_dat, AB.frzRK_new, AB.frzRK_drw, AB.toRK_dat, AB.tbK_bool, AB.asgK_dat, AB.asgK_new, AB.asgK_drw, AB.iteK_true, AB.iteK_false, AB.fAdd_int, AB.fAdd_tup, AB.fAdd_lst, AB.fAdd_str, AB.fSub_int, AB.fMul_int, AB.fMul_lst, AB.fDiv_int, AB.fMod_int, AB.fPow_int, AB.fShl_int, AB.fShr_int, AB.fAnd1_int, AB.fCmp_int, AB.fNeg_int, AB.fIs_non, AB.fIsNot_non, AB.fIs_bool, AB.fIsNot_bool, AB.fIx_lst, AB.fIx_tup, AB.fIx_scr, AB.fIx_str, AB.fSl_lst, AB.fSl_tup, AB.fAbs_int, AB.fInt_int, AB.fInt_bool, AB.fMax2_int, AB.fMin2_int, AB.fLen_scr, AB.fLen_lst, AB.fLen_tup, AB.fLen_str, AB.fTupleOf_lst, AB.fTupleOf_tup, AB.fListOf_lst, AB.fListOf_tup, AB.fSum_lst, AB.fSum_tup, AB.fLstRev_lst, AB.fEq_eq, AB.fNe_eq, AB.on2_ss, AB.on1_s, AB.look_dat, AB.eqv_ii, AB.eqv_bb, AB.eqv_ss, AB.shaped_int, AB.shaped_b, AB.shaped_non, AB.isD_int_non, AB.isD_int_bl, AB.isD_int_int, AB.isD_int_str, AB.isD_int_lst, AB.isD_int_tup, AB.isD_bool_non, AB.isD_bool_bl, AB.isD_bool_int, AB.isD_bool_str, AB.isD_bool_lst, AB.isD_bool_tup, AB.isD_list_non, AB.isD_list_bl, AB.isD_list_int, AB.isD_list_str, AB.isD_list_lst, AB.isD_list_tup, AB.isD_tuple_non, AB.isD_tuple_bl, AB.isD_tuple_int, AB.isD_tuple_str, AB.isD_tuple_lst, AB.isD_tuple_tup, AB.isD_str_non, AB.isD_str_bl, AB.isD_str_int, AB.isD_str_str, AB.isD_str_lst, AB.isD_str_tup, List.map_cons, List.map_nil, List.length_cons, List.length_nil, List.replicate_succ, List.replicate_zero, List.cons_append, List.nil_append, List.append_nil, List.set_cons_zero, List.set_cons_succ, List.set_nil, List.getElem?_cons_zero, List.getElem?_cons_succ, List.getElem?_nil, Nat.sub_self, Nat.reduceAdd, Nat.reduceSub, Nat.zero_add, Nat.add_zero, Bool.false_eq_true, if_false, if_true, Bool.not_true, Bool.not_false, reduceIte]
  have hl : (rangeD 1 (70 - 1 : Int).toNat).length = 69 := rangeD_len _ _
  refine ⟨by simp [h9], ⟨by decide, by decide, by decide, by decide, by decide⟩, ⟨by decide, by decide, by decide⟩, ⟨by decide, by decide, by decide⟩, ⟨by decide, by decide, by decide⟩, by decide, by rw [hl]; decide, by rw [List.length_append, hl]; decide, fun k acc => acc = [], rfl, ?_, ?_⟩
  · rintro k d acc hd rfl
    have hm : ∃ m : Nat, d = .int (m : Int) ∧ bf m ≤ 110 := by
      rcases List.mem_append.mp (List.mem_of_getElem? hd) with h | h
      · obtain ⟨i, hi⟩ := List.getElem?_of_mem h
        obtain ⟨h1, rfl⟩ := rangeD_get hi
        have h2 : i < 69 := h1
        refine ⟨1 + i, by rw [Int.natCast_add]; rfl, bf_le (Nat.le_trans (show 1 + i ≤ 2 ^ 7 by omega) (Nat.pow_le_pow_right (by decide) (by decide)))⟩
      · rcases List.mem_cons.mp h with rfl | h
        · exact ⟨1000000, rfl, bf_le (Nat.le_trans (show 1000000 ≤ 2 ^ 20 by decide) (Nat.pow_le_pow_right (by decide) (by decide)))⟩
        · rcases List.mem_cons.mp h with rfl | h
          · exact ⟨1099511627776, rfl, bf_le (Nat.le_trans (show 1099511627776 ≤ 2 ^ 40 by decide) (Nat.pow_le_pow_right (by decide) (by decide)))⟩
          · rw [List.mem_singleton.mp h]
            exact ⟨1099511627777, rfl, bf_le (Nat.le_trans (show 1099511627777 ≤ 2 ^ 41 by decide) (Nat.pow_le_pow_right (by decide) (by decide)))⟩
    obtain ⟨m, rfl, hb⟩ := hm
    simp only [a_law_10, AB.aSeq, AB.aDrop, AB.aRet, AB.aRetN, AB.aRetV, AB.aBrk, AB.aCt, AB.aApp, AB.aAug, AB.aRaise, AB.aPar, AB.aPar3, AB.aAsgT, AB.aNext, AB.aC, AB.aOp2, AB.aUn, AB.aNil, AB.aCons, AB.aCB, AB.aTru, AB.aAndV, AB.aOrV, AB.aNotV, AB.aChain, AB.aNoPart, AB.aPart, AB.aSl, AB.aTup, AB.aLst, AB.aCall, AB.aCallR, AB.aIsi, AB.aLc, AB.aFor, AB.aWhile, AB.aiR1, AB.aiR2, AB.aiR3, AB.aiU, AB.aiU.on1', AB.aiE, AB.agName, AB.agNil, AB.agCons, AB.agTup, AB.aTold, AB.aDrw, AB.aListR1, AB.aListR2, AB.aYes, AB.lookAll, AB.datAll, AB.startS, AB.startR, AB.endA, AB.endR, AB.itemsD, AB.noOwn, AB.wipeS, AB.isNoneD, AB.truD, AB.truOk, Bool.not_true, Bool.not_false, AB.aVar_eq, AB.aFrz_eq, AB.varK_val, AB.varK_lst, AB.varK_drw, AB.frzSK_lst, AB.frzSK_val, AB.look_ali, AB.aliK_lst, AB.frz_eq, AB.frzR_eq, AB.toR_eq, AB.aTB_eq, AB.aAsg_eq, AB.aIfS_eq, AB.aNotT_eq, AB.aAndT_eq, AB.aOrT_eq, AB.aIf_eq, AB.frzK_dat, AB.frzK_new, AB.frzRK_dat, AB.frzRK_new, AB.frzRK_drw, AB.toRK_dat, AB.tbK_bool, AB.asgK_dat, AB.asgK_new, AB.asgK_drw, AB.iteK_true, AB.iteK_false, AB.fAdd_int, AB.fAdd_tup, AB.fAdd_lst, AB.fAdd_str, AB.fSub_int, AB.fMul_int, AB.fMul_lst, AB.fDiv_int, AB.fMod_int, AB.fPow_int, AB.fShl_int, AB.fShr_int, AB.fAnd1_int, AB.fCmp_int, AB.fNeg_int, AB.fIs_non, AB.fIsNot_non, AB.fIs_bool, AB.fIsNot_bool, AB.fIx_lst, AB.fIx_tup, AB.fIx_scr, AB.fIx_str, AB.fSl_lst, AB.fSl_tup, AB.fAbs_int, AB.fInt_int, AB.fInt_bool, AB.fMax2_int, AB.fMin2_int, AB.fLen_scr, AB.fLen_lst, AB.fLen_tup, AB.fLen_str, AB.fTupleOf_lst, AB.fTupleOf_tup, AB.fListOf_lst, AB.fListOf_tup, AB.fSum_lst, AB.fSum_tup, AB.fLstRev_lst, AB.fEq_eq, AB.fNe_eq, AB.on2_ss, AB.on1_s, AB.look_dat, AB.eqv_ii, AB.eqv_bb, AB.eqv_ss, AB.shaped_int, AB.shaped_b, AB.shaped_non, AB.isD_int_non, AB.isD_int_bl, AB.isD_int_int, AB.isD_int_str, AB.isD_int_lst, AB.isD_int_tup, AB.isD_bool_non, AB.isD_bool_bl, AB.isD_bool_int, AB.isD_bool_str, AB.isD_bool_lst, AB.isD_bool_tup, AB.isD_list_non, AB.isD_list_bl, AB.isD_list_int, AB.isD_list_str, AB.isD_list_lst, AB.isD_list_tup, AB.isD_tuple_non, AB.isD_tuple_bl, AB.isD_tuple_int, AB.isD_tuple_str, AB.isD_tuple_lst, AB.isD_tuple_tup, AB.isD_str_non, AB.isD_str_bl, AB.isD_str_int, AB.isD_str_str, AB.isD_str_lst, AB.isD_str_tup, List.map_cons, List.map_nil, List.length_cons, List.length_nil, List.replicate_succ, List.replicate_zero, List.cons_append, List.nil_append, List.append_nil, List.set_cons_zero, List.set_cons_succ, List.set_nil, List.getElem?_cons_zero, List.getElem?_cons_succ, List.getElem?_nil, Nat.sub_self, Nat.reduceAdd, Nat.reduceSub, Nat.zero_add, Nat.add_zero, Bool.false_eq_true, if_false, if_true, Bool.not_true, Bool.not_false, reduceIte]
    refine ⟨m, rfl, by omega, ?_⟩
    try simp only [AB.aSeq, AB.aDrop, AB.aRet, AB.aRetN, AB.aRetV, AB.aBrk, AB.aCt, AB.aApp, AB.aAug, AB.aRaise, AB.aPar, AB.aPar3, AB.aAsgT, AB.aNext, AB.aC, AB.aOp2, AB.aUn, AB.aNil, AB.aCons, AB.aCB, AB.aTru, AB.aAndV, AB.aOrV, AB.aNotV, AB.aChain, AB.aNoPart, AB.aPart, AB.aSl, AB.aTup, AB.aLst, AB.aCall, AB.aCallR, AB.aIsi, AB.aLc, AB.aFor, AB.aWhile, AB.aiR1, AB.aiR2, AB.aiR3, AB.aiU, AB.aiU.on1', AB.aiE, AB.agName, AB.agNil, AB.agCons, AB.agTup, AB.aTold, AB.aDrw, AB.aListR1, AB.aListR2, AB.aYes, AB.lookAll, AB.datAll, AB.startS, AB.startR, AB.endA, AB.endR, AB.itemsD, AB.noOwn, AB.wipeS, AB.isNoneD, AB.truD, AB.truOk, Bool.not_true, Bool.not_false, AB.aVar_eq, AB.aFrz_eq, AB.varK_val, AB.varK_lst, AB.varK_drw, AB.frzSK_lst, AB.frzSK_val, AB.look_ali, AB.aliK_lst, AB.frz_eq, AB.frzR_eq, AB.toR_eq, AB.aTB_eq, AB.aAsg_eq, AB.aIfS_eq, AB.aNotT_eq, AB.aAndT_eq, AB.aOrT_eq, AB.aIf_eq, AB.frzK_dat, AB.frzK_new, AB.frzRK_dat, AB.frzRK_new, AB.frzRK_drw, AB.toRK_dat, AB.tbK_bool, AB.asgK_dat, AB.asgK_new, AB.asgK_drw, AB.iteK_true, AB.iteK_false, AB.fAdd_int, AB.fAdd_tup, AB.fAdd_lst, AB.fAdd_str, AB.fSub_int, AB.fMul_int, AB.fMul_lst, AB.fDiv_int, AB.fMod_int, AB.fPow_int, AB.fShl_int, AB.fShr_int, AB.fAnd1_int, AB.fCmp_int, AB.fNeg_int, AB.fIs_non, AB.fIsNot_non, AB.fIs_bool, AB.fIsNot_bool, AB.fIx_lst, AB.fIx_tup, AB.fIx_scr, AB.fIx_str, AB.fSl_lst, AB.fSl_tup, AB.fAbs_int, AB.fInt_int, AB.fInt_bool, AB.fMax2_int, AB.fMin2_int, AB.fLen_scr, AB.fLen_lst, AB.fLen_tup, AB.fLen_str, AB.fTupleOf_lst, AB.fTupleOf_tup, AB.fListOf_lst, AB.fListOf_tup, AB.fSum_lst, AB.fSum_tup, AB.fLstRev_lst, AB.fEq_eq, AB.fNe_eq, AB.on2_ss, AB.on1_s, AB.look_dat, AB.eqv_ii, AB.eqv_bb, AB.eqv_ss, AB.shaped_int, AB.shaped_b, AB.shaped_non, AB.isD_int_non, AB.isD_int_bl, AB.isD_int_int, AB.isD_int_str, AB.isD_int_lst, AB.isD_int_tup, AB.isD_bool_non, AB.isD_bool_bl, AB.isD_bool_int, AB.isD_bool_str, AB.isD_bool_lst, AB.isD_bool_tup, AB.isD_list_non, AB.isD_list_bl, AB.isD_list_int, AB.isD_list_str, AB.isD_list_lst, AB.isD_list_tup, AB.isD_tuple_non, AB.isD_tuple_bl, AB.isD_tuple_int, AB.isD_tuple_str, AB.isD_tuple_lst, AB.isD_tuple_tup, AB.isD_str_non, AB.isD_str_bl, AB.isD_str_int, AB.isD_str_str, AB.isD_str_lst, AB.isD_str_tup, List.map_cons, List.map_nil, List.length_cons, List.length_nil, List.replicate_succ, List.replicate_zero, List.cons_append, List.nil_append, List.append_nil, List.set_cons_zero, List.set_cons_succ, List.set_nil, List.getElem?_cons_zero, List.getElem?_cons_succ, List.getElem?_nil, Nat.sub_self, Nat.reduceAdd, Nat.reduceSub, Nat.zero_add, Nat.add_zero, Bool.false_eq_true, if_false, if_true, Bool.not_true, Bool.not_false, reduceIte]
    refine ⟨m, rfl, hb, ?_⟩
    try simp only [AB.aSeq, AB.aDrop, AB.aRet, AB.aRetN, AB.aRetV, AB.aBrk, AB.aCt, AB.aApp, AB.aAug, AB.aRaise, AB.aPar, AB.aPar3, AB.aAsgT, AB.aNext, AB.aC, AB.aOp2, AB.aUn, AB.aNil, AB.aCons, AB.aCB, AB.aTru, AB.aAndV, AB.aOrV, AB.aNotV, AB.aChain, AB.aNoPart, AB.aPart, AB.aSl, AB.aTup, AB.aLst, AB.aCall, AB.aCallR, AB.aIsi, AB.aLc, AB.aFor, AB.aWhile, AB.aiR1, AB.aiR2, AB.aiR3, AB.aiU, AB.aiU.on1', AB.aiE, AB.agName, AB.agNil, AB.agCons, AB.agTup, AB.aTold, AB.aDrw, AB.aListR1, AB.aListR2, AB.aYes, AB.lookAll, AB.datAll, AB.startS, AB.startR, AB.endA, AB.endR, AB.itemsD, AB.noOwn, AB.wipeS, AB.isNoneD, AB.truD, AB.truOk, Bool.not_true, Bool.not_false, AB.aVar_eq, AB.aFrz_eq, AB.varK_val, AB.varK_lst, AB.varK_drw, AB.frzSK_lst, AB.frzSK_val, AB.look_ali, AB.aliK_lst, AB.frz_eq, AB.frzR_eq, AB.toR_eq, AB.aTB_eq, AB.aAsg_eq, AB.aIfS_eq, AB.aNotT_eq, AB.aAndT_eq, AB.aOrT_eq, AB.aIf_eq, AB.frzK_dat, AB.frzK_new, AB.frzRK_dat, AB.frzRK_new, AB.frzRK_drw, AB.toRK_dat, AB.tbK_bool, AB.asgK_dat, AB.asgK_new, AB.asgK_drw, AB.iteK_true, AB.iteK_false, AB.fAdd_int, AB.fAdd_tup, AB.fAdd_lst, AB.fAdd_str, AB.fSub_int, AB.fMul_int, AB.fMul_lst, AB.fDiv_int, AB.fMod_int, AB.fPow_int, AB.fShl_int, AB.fShr_int, AB.fAnd1_int, AB.fCmp_int, AB.fNeg_int, AB.fIs_non, AB.fIsNot_non, AB.fIs_bool, AB.fIsNot_bool, AB.fIx_lst, AB.fIx_tup, AB.fIx_scr, AB.fIx_str, AB.fSl_lst, AB.fSl_tup, AB.fAbs_int, AB.fInt_int, AB.fInt_bool, AB.fMax2_int, AB.fMin2_int, AB.fLen_scr, AB.fLen_lst, AB.fLen_tup, AB.fLen_str, AB.fTupleOf_lst, AB.fTupleOf_tup, AB.fListOf_lst, AB.fListOf_tup, AB.fSum_lst, AB.fSum_tup, AB.fLstRev_lst, AB.fEq_eq, AB.fNe_eq, AB.on2_ss, AB.on1_s, AB.look_dat, AB.eqv_ii, AB.eqv_bb, AB.eqv_ss, AB.shaped_int, AB.shaped_b, AB.shaped_non, AB.isD_int_non, AB.isD_int_bl, AB.isD_int_int, AB.isD_int_str, AB.isD_int_lst, AB.isD_int_tup, AB.isD_bool_non, AB.isD_bool_bl, AB.isD_bool_int, AB.isD_bool_str, AB.isD_bool_lst, AB.isD_bool_tup, AB.isD_list_non, AB.isD_list_bl, AB.isD_list_int, AB.isD_list_str, AB.isD_list_lst, AB.isD_list_tup, AB.isD_tuple_non, AB.isD_tuple_bl, AB.isD_tuple_int, AB.isD_tuple_str, AB.isD_tuple_lst, AB.isD_tuple_tup, AB.isD_str_non, AB.isD_str_bl, AB.isD_str_int, AB.isD_str_str, AB.isD_str_lst, AB.isD_str_tup, List.map_cons, List.map_nil, List.length_cons, List.length_nil, List.replicate_succ, List.replicate_zero, List.cons_append, List.nil_append, List.append_nil, List.set_cons_zero, List.set_cons_succ, List.set_nil, List.getElem?_cons_zero, List.getElem?_cons_succ, List.getElem?_nil, Nat.sub_self, Nat.reduceAdd, Nat.reduceSub, Nat.zero_add, Nat.add_zero, Bool.false_eq_true, if_false, if_true, Bool.not_true, Bool.not_false, reduceIte]
    exact ⟨_, rfl, dep_int _ _, trivial⟩
  · rintro acc rfl
    refine ⟨by decide, rfl, rfl, ?_⟩
    exact law_r13 C Q Xe hp _ _ _ _ _ _ _ _ _ _ _ _ _
theorem law_r15 (C : Nat → Addr) (l : Addr) (Q : RV → Prop) (Xe : XP) (hp : Q (.dat (.bool true))) (s0 s2 s3 s4 s5 s6 s7 s8 s9 s10 s11 s12 : SV) (h5 : noOwnB s5 = true) (h9 : noOwnB s9 = true) :
    a_law_r15 C (endA Q Xe) [s0, .drw l, s2, s3, s4, s5, s6, s7, s8, s9, s10, s11, s12, .no] := by
  simp only [a_law_r15, AB.aSeq, AB.aDrop, AB.aRet, AB.aRetN, AB.aRetV, AB.aBrk, AB.aCt, AB.aApp, AB.aAug, AB.aRaise, AB.aPar, AB.aPar3, AB.aAsgT, AB.aNext, AB.aC, AB.aOp2, AB.aUn, AB.aNil, AB.aCons, AB.aCB, AB.aTru, AB.aAndV, AB.aOrV, AB.aNotV, AB.aChain, AB.aNoPart, AB.aPart, AB.aSl, AB.aTup, AB.aLst, AB.aCall, AB.aCallR, AB.aIsi, AB.aLc, AB.aFor, AB.aWhile, AB.aiR1, AB.aiR2, AB.aiR3, AB.aiU, AB.aiU.on1', AB.aiE, AB.agName, AB.agNil, AB.agCons, AB.agTup, AB.aTold, AB.aDrw, AB.aListR1, AB.aListR2, AB.aYes, AB.lookAll, AB.datAll, AB.startS, AB.startR, AB.endA, AB.endR, AB.itemsD, AB.noOwn, AB.wipeS, AB.isNoneD, AB.truD, AB.truOk, Bool.not_true, Bool.not_false, AB.aVar_eq, AB.aFrz_eq, AB.varK_val, AB.varK_lst, AB.varK_drw, AB.frzSK_lst, AB.frzSK_val, AB.look_ali, AB.aliK_lst, AB.frz_eq, AB.frzR_eq, AB.toR_eq, AB.aTB_eq, AB.aAsg_eq, AB.aIfS_eq, AB.aNotT_eq, AB.aAndT_eq, AB.aOrT_eq, AB.aIf_eq, AB.frzK_dat, AB.frzK_new, AB.frzRK_dat, AB.frzRK_new, AB.frzRK_drw, AB.toRK_dat, AB.tbK_bool, AB.asgK_dat, AB.asgK_new, AB.asgK_drw, AB.iteK_true, AB.iteK_false, AB.fAdd_int, AB.fAdd_tup, AB.fAdd_lst, AB.fAdd_str, AB.fSub_int, AB.fMul_int, AB.fMul_lst, AB.fDiv_int, AB.fMod_int, AB.fPow_int, AB.fShl_int, AB.fShr_int, AB.fAnd1_int, AB.fCmp_int, AB.fNeg_int, AB.fIs_non, AB.fIsNot_non, AB.fIs_bool, AB.fIsNot_bool, AB.fIx_lst, AB.fIx_tup, AB.fIx_scr, AB.fIx_str, AB.fSl_lst, AB.fSl_tup, AB.fAbs_int, AB.fInt_int, AB.fInt_bool, AB.fMax2_int, AB.fMin2_int, AB.fLen_scr, AB.fLen_lst, AB.fLen_tup, AB.fLen_str, AB.fTupleOf_lst, AB.fTupleOf_tup, AB.fListOf_lst, AB.fListOf_tup, AB.fSum_lst, AB.fSum_tup, AB.fLstRev_lst, AB.fEq_eq, AB.fNe_eq, AB.on2_ss, AB.on1_s, AB.look_dat, AB.eqv_ii, AB.eqv_bb, AB.eqv_ss, AB.shaped_int, AB.shaped_b, AB.shaped_non, AB.isD_int_non, AB.isD_int_bl, AB.isD_int_int, AB.isD_int_str, AB.isD_int_lst, AB.isD_int_tup, AB.isD_bool_non, AB.isD_bool_bl, AB.isD_bool_int, AB.isD_bool_str, AB.isD_bool_lst, AB.isD_bool_tup, AB.isD_list_non, AB.isD_list_bl, AB.isD_list_int, AB.isD_list_str, AB.isD_list_lst, AB.isD_list_tup, AB.isD_tuple_non, AB.isD_tuple_bl, AB.isD_tuple_int, AB.isD_tuple_str, AB.isD_tuple_lst, AB.isD_tuple_tup, AB.isD_str_non, AB.isD_str_bl, AB.isD_str_int, AB.isD_str_str, AB.isD_str_lst, AB.isD_str_tup, List.map_cons, List.map_nil, List.length_cons, List.length_nil, List.replicate_succ, List.replicate_zero, List.cons_append, List.nil_append, List.append_nil, List.set_cons_zero, List.set_cons_succ, List.set_nil, List.getElem?_cons_zero, List.getElem?_cons_succ, List.getElem?_nil, Nat.sub_self, Nat.reduceAdd, Nat.reduceSub, Nat.zero_add, Nat.add_zero, Bool.false_eq_true, if_false, if_true, Bool.not_true, Bool.not_false, reduceIte]
  refine ⟨by decide, by decide, fun k s => ∃ s2 s3 s6 s7 s8 s9 s10 s11, noOwnB s9 = true ∧ s = [s0, .drw l, s2, s3, s4, s5, s6, s7, s8, s9, s10, s11, s12, .no], ⟨s2, s3, s6, s7, s8, s9, s10, s11, h9, rfl⟩, ?_, ?_⟩
  · rintro k d s hd ⟨s2, s3, s6, s7, s8, s9, s10, s11, h9, rfl⟩
    obtain ⟨hk, rfl⟩ := rangeD_get hd
    have hk2 : k < 4 := hk
    try simp only [AB.aSeq, AB.aDrop, AB.aRet, AB.aRetN, AB.aRetV, AB.aBrk, AB.aCt, AB.aApp, AB.aAug, AB.aRaise, AB.aPar, AB.aPar3, AB.aAsgT, AB.aNext, AB.aC, AB.aOp2, AB.aUn, AB.aNil, AB.aCons, AB.aCB, AB.aTru, AB.aAndV, AB.aOrV, AB.aNotV, AB.aChain, AB.aNoPart, AB.aPart, AB.aSl, AB.aTup, AB.aLst, AB.aCall, AB.aCallR, AB.aIsi, AB.aLc, AB.aFor, AB.aWhile, AB.aiR1, AB.aiR2, AB.aiR3, AB.aiU, AB.aiU.on1', AB.aiE, AB.agName, AB.agNil, AB.agCons, AB.agTup, AB.aTold, AB.aDrw, AB.aListR1, AB.aListR2, AB.aYes, AB.lookAll, AB.datAll, AB.startS, AB.startR, AB.endA, AB.endR, AB.itemsD, AB.noOwn, AB.wipeS, AB.isNoneD, AB.truD, AB.truOk, Bool.not_true, Bool.not_false, AB.aVar_eq, AB.aFrz_eq, AB.varK_val, AB.varK_lst, AB.varK_drw, AB.frzSK_lst, AB.frzSK_val, AB.look_ali, AB.aliK_lst, AB.frz_eq, AB.frzR_eq, AB.toR_eq, AB.aTB_eq, AB.aAsg_eq, AB.aIfS_eq, AB.aNotT_eq, AB.aAndT_eq, AB.aOrT_eq, AB.aIf_eq, AB.frzK_dat, AB.frzK_new, AB.frzRK_dat, AB.frzRK_new, AB.frzRK_drw, AB.toRK_dat, AB.tbK_bool, AB.asgK_dat, AB.asgK_new, AB.asgK_drw, AB.iteK_true, AB.iteK_false, AB.fAdd_int, AB.fAdd_tup, AB.fAdd_lst, AB.fAdd_str, AB.fSub_int, AB.fMul_int, AB.fMul_lst, AB.fDiv_int, AB.fMod_int, AB.fPow_int, AB.fShl_int, AB.fShr_int, AB.fAnd1_int, AB.fCmp_int, AB.fNeg_int, AB.fIs_non, AB.fIsNot_non, AB.fIs_bool, AB.fIsNot_bool, AB.fIx_lst, AB.fIx_tup, AB.fIx_scr, AB.fIx_str, AB.fSl_lst, AB.fSl_tup, AB.fAbs_int, AB.fInt_int, AB.fInt_bool, AB.fMax2_int, AB.fMin2_int, AB.fLen_scr, AB.fLen_lst, AB.fLen_tup, AB.fLen_str, AB.fTupleOf_lst, AB.fTupleOf_tup, AB.fListOf_lst, AB.fListOf_tup, AB.fSum_lst, AB.fSum_tup, AB.fLstRev_lst, AB.fEq_eq, AB.fNe_eq, AB.on2_ss, AB.on1_s, AB.look_dat, AB.eqv_ii, AB.eqv_bb, AB.eqv_ss, AB.shaped_int, AB.shaped_b, AB.shaped_non, AB.isD_int_non, AB.isD_int_bl, AB.isD_int_int, AB.isD_int_str, AB.isD_int_lst, AB.isD_int_tup, AB.isD_bool_non, AB.isD_bool_bl, AB.isD_bool_int, AB.isD_bool_str, AB.isD_bool_lst, AB.isD_bool_tup, AB.isD_list_non, AB.isD_list_bl, AB.isD_list_int, AB.isD_list_str, AB.isD_list_lst, AB.isD_list_tup, AB.isD_tuple_non, AB.isD_tuple_bl, AB.isD_tuple_int, AB.isD_tuple_str, AB.isD_tuple_lst, AB.isD_tuple_tup, AB.isD_str_non, AB.isD_str_bl, AB.isD_str_int, AB.isD_str_str, AB.isD_str_lst, AB.isD_str_tup, List.map_cons, List.map_nil, List.length_cons, List.length_nil, List.replicate_succ, List.replicate_zero, List.cons_append, List.nil_append, List.append_nil, List.set_cons_zero, List.set_cons_succ, List.set_nil, List.getElem?_cons_zero, List.getElem?_cons_succ, List.getElem?_nil, Nat.sub_self, Nat.reduceAdd, Nat.reduceSub, Nat.zero_add, Nat.add_zero, Bool.false_eq_true, if_false, if_true, Bool.not_true, Bool.not_false, reduceIte]
    exact law_9 _ l _ (by omega) (by omega) _ _ _ _ _ _ _ _ _ _ _ _ h5 fun s2 s3 s7 s8 s9 s10 s11 h9 => ⟨s2, s3, _, s7, s8, s9, s10, s11, h9, rfl⟩
  · rintro s ⟨s2, s3, s6, s7, s8, s9, s10, s11, h9, rfl⟩
    exact law_r14 C Q Xe hp _ _ _ _ _ _ _ _ _ _ _ _ _ h9
theorem r_law (C : Nat → Addr) : ∀ ds Q Xe, ft_law ds Q Xe → a_law C (endA Q Xe) (startS ["script", "draws", "long", "ones", "rows", "k", "turn", "bits", "rank", "many", "number", "wide", "odd", "value"] ds) := by
  rintro ds Q Xe ⟨ns, rfl, hl, hp⟩
  simp only [a_law, AB.aSeq, AB.aDrop, AB.aRet, AB.aRetN, AB.aRetV, AB.aBrk, AB.aCt, AB.aApp, AB.aAug, AB.aRaise, AB.aPar, AB.aPar3, AB.aAsgT, AB.aNext, AB.aC, AB.aOp2, AB.aUn, AB.aNil, AB.aCons, AB.aCB, AB.aTru, AB.aAndV, AB.aOrV, AB.aNotV, AB.aChain, AB.aNoPart, AB.aPart, AB.aSl, AB.aTup, AB.aLst, AB.aCall, AB.aCallR, AB.aIsi, AB.aLc, AB.aFor, AB.aWhile, AB.aiR1, AB.aiR2, AB.aiR3, AB.aiU, AB.aiU.on1', AB.aiE, AB.agName, AB.agNil, AB.agCons, AB.agTup, AB.aTold, AB.aDrw, AB.aListR1, AB.aListR2, AB.aYes, AB.lookAll, AB.datAll, AB.startS, AB.startR, AB.endA, AB.endR, AB.itemsD, AB.noOwn, AB.wipeS, AB.isNoneD, AB.truD, AB.truOk, Bool.not_true, Bool.not_false, AB.aVar_eq, AB.aFrz_eq, AB.varK_val, AB.varK_lst, AB.varK_drw, AB.frzSK_lst, AB.frzSK_val, AB.look_ali, AB.aliK_lst, AB.frz_eq, AB.frzR_eq, AB.toR_eq, AB.aTB_eq, AB.aAsg_eq, AB.aIfS_eq, AB.aNotT_eq, AB.aAndT_eq, AB.aOrT_eq, AB.aIf_eq, AB.frzK_dat, AB.frzK_new, AB.frzRK_dat, AB.frzRK_new, AB.frzRK_drw, AB.toRK_dat, AB.tbK_bool, AB.asgK_dat, AB.asgK_new, AB.asgK_drw, AB.iteK_true, AB.iteK_false, AB.fAdd_int, AB.fAdd_tup, AB.fAdd_lst, AB.fAdd_str, AB.fSub_int, AB.fMul_int, AB.fMul_lst, AB.fDiv_int, AB.fMod_int, AB.fPow_int, AB.fShl_int, AB.fShr_int, AB.fAnd1_int, AB.fCmp_int, AB.fNeg_int, AB.fIs_non, AB.fIsNot_non, AB.fIs_bool, AB.fIsNot_bool, AB.fIx_lst, AB.fIx_tup, AB.fIx_scr, AB.fIx_str, AB.fSl_lst, AB.fSl_tup, AB.fAbs_int, AB.fInt_int, AB.fInt_bool, AB.fMax2_int, AB.fMin2_int, AB.fLen_scr, AB.fLen_lst, AB.fLen_tup, AB.fLen_str, AB.fTupleOf_lst, AB.fTupleOf_tup, AB.fListOf_lst, AB.fListOf_tup, AB.fSum_lst, AB.fSum_tup, AB.fLstRev_lst, AB.fEq_eq, AB.fNe_eq, AB.on2_ss, AB.on1_s, AB.look_dat, AB.eqv_ii, AB.eqv_bb, AB.eqv_ss, AB.shaped_int, AB.shaped_b, AB.shaped_non, AB.isD_int_non, AB.isD_int_bl, AB.isD_int_int, AB.isD_int_str, AB.isD_int_lst, AB.isD_int_tup, AB.isD_bool_non, AB.isD_bool_bl, AB.isD_bool_int, AB.isD_bool_str, AB.isD_bool_lst, AB.isD_bool_tup, AB.isD_list_non, AB.isD_list_bl, AB.isD_list_int, AB.isD_list_str, AB.isD_list_lst, AB.isD_list_tup, AB.isD_tuple_non, AB.isD_tuple_bl, AB.isD_tuple_int, AB.isD_tuple_str, AB.isD_tuple_lst, AB.isD_tuple_tup, AB.isD_str_non, AB.isD_str_bl, AB.isD_str_int, AB.isD_str_str, AB.isD_str_lst, AB.isD_str_tup, List.map_cons, List.map_nil, List.length_cons, List.length_nil, List.replicate_succ, List.replicate_zero, List.cons_append, List.nil_append, List.append_nil, List.set_cons_zero, List.set_cons_succ, List.set_nil, List.getElem?_cons_zero, List.getElem?_cons_succ, List.getElem?_nil, Nat.sub_self, Nat.reduceAdd, Nat.reduceSub, Nat.zero_add, Nat.add_zero, Bool.false_eq_true, if_false, if_true, Bool.not_true, Bool.not_false, reduceIte]
  refine ⟨ns, rfl, hl, ?_⟩
  try simp only [AB.aSeq, AB.aDrop, AB.aRet, AB.aRetN, AB.aRetV, AB.aBrk, AB.aCt, AB.aApp, AB.aAug, AB.aRaise, AB.aPar, AB.aPar3, AB.aAsgT, AB.aNext, AB.aC, AB.aOp2, AB.aUn, AB.aNil, AB.aCons, AB.aCB, AB.aTru, AB.aAndV, AB.aOrV, AB.aNotV, AB.aChain, AB.aNoPart, AB.aPart, AB.aSl, AB.aTup, AB.aLst, AB.aCall, AB.aCallR, AB.aIsi, AB.aLc, AB.aFor, AB.aWhile, AB.aiR1, AB.aiR2, AB.aiR3, AB.aiU, AB.aiU.on1', AB.aiE, AB.agName, AB.agNil, AB.agCons, AB.agTup, AB.aTold, AB.aDrw, AB.aListR1, AB.aListR2, AB.aYes, AB.lookAll, AB.datAll, AB.startS, AB.startR, AB.endA, AB.endR, AB.itemsD, AB.noOwn, AB.wipeS, AB.isNoneD, AB.truD, AB.truOk, Bool.not_true, Bool.not_false, AB.aVar_eq, AB.aFrz_eq, AB.varK_val, AB.varK_lst, AB.varK_drw, AB.frzSK_lst, AB.frzSK_val, AB.look_ali, AB.aliK_lst, AB.frz_eq, AB.frzR_eq, AB.toR_eq, AB.aTB_eq, AB.aAsg_eq, AB.aIfS_eq, AB.aNotT_eq, AB.aAndT_eq, AB.aOrT_eq, AB.aIf_eq, AB.frzK_dat, AB.frzK_new, AB.frzRK_dat, AB.frzRK_new, AB.frzRK_drw, AB.toRK_dat, AB.tbK_bool, AB.asgK_dat, AB.asgK_new, AB.asgK_drw, AB.iteK_true, AB.iteK_false, AB.fAdd_int, AB.fAdd_tup, AB.fAdd_lst, AB.fAdd_str, AB.fSub_int, AB.fMul_int, AB.fMul_lst, AB.fDiv_int, AB.fMod_int, AB.fPow_int, AB.fShl_int, AB.fShr_int, AB.fAnd1_int, AB.fCmp_int, AB.fNeg_int, AB.fIs_non, AB.fIsNot_non, AB.fIs_bool, AB.fIsNot_bool, AB.fIx_lst, AB.fIx_tup, AB.fIx_scr, AB.fIx_str, AB.fSl_lst, AB.fSl_tup, AB.fAbs_int, AB.fInt_int, AB.fInt_bool, AB.fMax2_int, AB.fMin2_int, AB.fLen_scr, AB.fLen_lst, AB.fLen_tup, AB.fLen_str, AB.fTupleOf_lst, AB.fTupleOf_tup, AB.fListOf_lst, AB.fListOf_tup, AB.fSum_lst, AB.fSum_tup, AB.fLstRev_lst, AB.fEq_eq, AB.fNe_eq, AB.on2_ss, AB.on1_s, AB.look_dat, AB.eqv_ii, AB.eqv_bb, AB.eqv_ss, AB.shaped_int, AB.shaped_b, AB.shaped_non, AB.isD_int_non, AB.isD_int_bl, AB.isD_int_int, AB.isD_int_str, AB.isD_int_lst, AB.isD_int_tup, AB.isD_bool_non, AB.isD_bool_bl, AB.isD_bool_int, AB.isD_bool_str, AB.isD_bool_lst, AB.isD_bool_tup, AB.isD_list_non, AB.isD_list_bl, AB.isD_list_int, AB.isD_list_str, AB.isD_list_lst, AB.isD_list_tup, AB.isD_tuple_non, AB.isD_tuple_bl, AB.isD_tuple_int, AB.isD_tuple_str, AB.isD_tuple_lst, AB.isD_tuple_tup, AB.isD_str_non, AB.isD_str_bl, AB.isD_str_int, AB.isD_str_str, AB.isD_str_lst, AB.isD_str_tup, List.map_cons, List.map_nil, List.length_cons, List.length_nil, List.replicate_succ, List.replicate_zero, List.cons_append, List.nil_append, List.append_nil, List.set_cons_zero, List.set_cons_succ, List.set_nil, List.getElem?_cons_zero, List.getElem?_cons_succ, List.getElem?_nil, Nat.sub_self, Nat.reduceAdd, Nat.reduceSub, Nat.zero_add, Nat.add_zero, Bool.false_eq_true, if_false, if_true, Bool.not_true, Bool.not_false, reduceIte]
  intro l
  refine ⟨_, rfl, by decide, fun r r0 r1 => ?_⟩
  obtain ⟨n, rfl⟩ := nat_of r0
  have hn : n ≤ 8 := by omega
  try simp only [AB.aSeq, AB.aDrop, AB.aRet, AB.aRetN, AB.aRetV, AB.aBrk, AB.aCt, AB.aApp, AB.aAug, AB.aRaise, AB.aPar, AB.aPar3, AB.aAsgT, AB.aNext, AB.aC, AB.aOp2, AB.aUn, AB.aNil, AB.aCons, AB.aCB, AB.aTru, AB.aAndV, AB.aOrV, AB.aNotV, AB.aChain, AB.aNoPart, AB.aPart, AB.aSl, AB.aTup, AB.aLst, AB.aCall, AB.aCallR, AB.aIsi, AB.aLc, AB.aFor, AB.aWhile, AB.aiR1, AB.aiR2, AB.aiR3, AB.aiU, AB.aiU.on1', AB.aiE, AB.agName, AB.agNil, AB.agCons, AB.agTup, AB.aTold, AB.aDrw, AB.aListR1, AB.aListR2, AB.aYes, AB.lookAll, AB.datAll, AB.startS, AB.startR, AB.endA, AB.endR, AB.itemsD, AB.noOwn, AB.wipeS, AB.isNoneD, AB.truD, AB.truOk, Bool.not_true, Bool.not_false, AB.aVar_eq, AB.aFrz_eq, AB.varK_val, AB.varK_lst, AB.varK_drw, AB.frzSK_lst, AB.frzSK_val, AB.look_ali, AB.aliK_lst, AB.frz_eq, AB.frzR_eq, AB.toR_eq, AB.aTB_eq, AB.aAsg_eq, AB.aIfS_eq, AB.aNotT_eq, AB.aAndT_eq, AB.aOrT_eq, AB.aIf_eq, AB.frzK_dat, AB.frzK_new, AB.frzRK_dat, AB.frzRK_new, AB.frzRK_drw, AB.toRK_dat, AB.tbK_bool, AB.asgK_dat, AB.asgK_new, AB.asgK_drw, AB.iteK_true, AB.iteK_false, AB.fAdd_int, AB.fAdd_tup, AB.fAdd_lst, AB.fAdd_str, AB.fSub_int, AB.fMul_int, AB.fMul_lst, AB.fDiv_int, AB.fMod_int, AB.fPow_int, AB.fShl_int, AB.fShr_int, AB.fAnd1_int, AB.fCmp_int, AB.fNeg_int, AB.fIs_non, AB.fIsNot_non, AB.fIs_bool, AB.fIsNot_bool, AB.fIx_lst, AB.fIx_tup, AB.fIx_scr, AB.fIx_str, AB.fSl_lst, AB.fSl_tup, AB.fAbs_int, AB.fInt_int, AB.fInt_bool, AB.fMax2_int, AB.fMin2_int, AB.fLen_scr, AB.fLen_lst, AB.fLen_tup, AB.fLen_str, AB.fTupleOf_lst, AB.fTupleOf_tup, AB.fListOf_lst, AB.fListOf_tup, AB.fSum_lst, AB.fSum_tup, AB.fLstRev_lst, AB.fEq_eq, AB.fNe_eq, AB.on2_ss, AB.on1_s, AB.look_dat, AB.eqv_ii, AB.eqv_bb, AB.eqv_ss, AB.shaped_int, AB.shaped_b, AB.shaped_non, AB.isD_int_non, AB.isD_int_bl, AB.isD_int_int, AB.isD_int_str, AB.isD_int_lst, AB.isD_int_tup, AB.isD_bool_non, AB.isD_bool_bl, AB.isD_bool_int, AB.isD_bool_str, AB.isD_bool_lst, AB.isD_bool_tup, AB.isD_list_non, AB.isD_list_bl, AB.isD_list_int, AB.isD_list_str, AB.isD_list_lst, AB.isD_list_tup, AB.isD_tuple_non, AB.isD_tuple_bl, AB.isD_tuple_int, AB.isD_tuple_str, AB.isD_tuple_lst, AB.isD_tuple_tup, AB.isD_str_non, AB.isD_str_bl, AB.isD_str_int, AB.isD_str_str, AB.isD_str_lst, AB.isD_str_tup, List.map_cons, List.map_nil, List.length_cons, List.length_nil, List.replicate_succ, List.replicate_zero, List.cons_append, List.nil_append, List.append_nil, List.set_cons_zero, List.set_cons_succ, List.set_nil, List.getElem?_cons_zero, List.getElem?_cons_succ, List.getElem?_nil, Nat.sub_self, Nat.reduceAdd, Nat.reduceSub, Nat.zero_add, Nat.add_zero, Bool.false_eq_true, if_false, if_true, Bool.not_true, Bool.not_false, reduceIte]
  refine ⟨⟨by decide, by decide, by omega, by omega⟩, fun k s => ∃ s3 s4 s5, noOwnB s5 = true ∧ s = [.val (scrD ns), .drw l, .val (.int n), s3, s4, s5, .no, .no, .no, .no, .no, .no, .no, .no], ⟨.no, .no, .no, rfl, rfl⟩, ?_, ?_⟩
  · rintro k d s hd ⟨s3, s4, s5, h5, rfl⟩
    obtain ⟨hk, rfl⟩ := rangeD_get hd
    try simp only [AB.aSeq, AB.aDrop, AB.aRet, AB.aRetN, AB.aRetV, AB.aBrk, AB.aCt, AB.aApp, AB.aAug, AB.aRaise, AB.aPar, AB.aPar3, AB.aAsgT, AB.aNext, AB.aC, AB.aOp2, AB.aUn, AB.aNil, AB.aCons, AB.aCB, AB.aTru, AB.aAndV, AB.aOrV, AB.aNotV, AB.aChain, AB.aNoPart, AB.aPart, AB.aSl, AB.aTup, AB.aLst, AB.aCall, AB.aCallR, AB.aIsi, AB.aLc, AB.aFor, AB.aWhile, AB.aiR1, AB.aiR2, AB.aiR3, AB.aiU, AB.aiU.on1', AB.aiE, AB.agName, AB.agNil, AB.agCons, AB.agTup, AB.aTold, AB.aDrw, AB.aListR1, AB.aListR2, AB.aYes, AB.lookAll, AB.datAll, AB.startS, AB.startR, AB.endA, AB.endR, AB.itemsD, AB.noOwn, AB.wipeS, AB.isNoneD, AB.truD, AB.truOk, Bool.not_true, Bool.not_false, AB.aVar_eq, AB.aFrz_eq, AB.varK_val, AB.varK_lst, AB.varK_drw, AB.frzSK_lst, AB.frzSK_val, AB.look_ali, AB.aliK_lst, AB.frz_eq, AB.frzR_eq, AB.toR_eq, AB.aTB_eq, AB.aAsg_eq, AB.aIfS_eq, AB.aNotT_eq, AB.aAndT_eq, AB.aOrT_eq, AB.aIf_eq, AB.frzK_dat, AB.frzK_new, AB.frzRK_dat, AB.frzRK_new, AB.frzRK_drw, AB.toRK_dat, AB.tbK_bool, AB.asgK_dat, AB.asgK_new, AB.asgK_drw, AB.iteK_true, AB.iteK_false, AB.fAdd_int, AB.fAdd_tup, AB.fAdd_lst, AB.fAdd_str, AB.fSub_int, AB.fMul_int, AB.fMul_lst, AB.fDiv_int, AB.fMod_int, AB.fPow_int, AB.fShl_int, AB.fShr_int, AB.fAnd1_int, AB.fCmp_int, AB.fNeg_int, AB.fIs_non, AB.fIsNot_non, AB.fIs_bool, AB.fIsNot_bool, AB.fIx_lst, AB.fIx_tup, AB.fIx_scr, AB.fIx_str, AB.fSl_lst, AB.fSl_tup, AB.fAbs_int, AB.fInt_int, AB.fInt_bool, AB.fMax2_int, AB.fMin2_int, AB.fLen_scr, AB.fLen_lst, AB.fLen_tup, AB.fLen_str, AB.fTupleOf_lst, AB.fTupleOf_tup, AB.fListOf_lst, AB.fListOf_tup, AB.fSum_lst, AB.fSum_tup, AB.fLstRev_lst, AB.fEq_eq, AB.fNe_eq, AB.on2_ss, AB.on1_s, AB.look_dat, AB.eqv_ii, AB.eqv_bb, AB.eqv_ss, AB.shaped_int, AB.shaped_b, AB.shaped_non, AB.isD_int_non, AB.isD_int_bl, AB.isD_int_int, AB.isD_int_str, AB.isD_int_lst, AB.isD_int_tup, AB.isD_bool_non, AB.isD_bool_bl, AB.isD_bool_int, AB.isD_bool_str, AB.isD_bool_lst, AB.isD_bool_tup, AB.isD_list_non, AB.isD_list_bl, AB.isD_list_int, AB.isD_list_str, AB.isD_list_lst, AB.isD_list_tup, AB.isD_tuple_non, AB.isD_tuple_bl, AB.isD_tuple_int, AB.isD_tuple_str, AB.isD_tuple_lst, AB.isD_tuple_tup, AB.isD_str_non, AB.isD_str_bl, AB.isD_str_int, AB.isD_str_str, AB.isD_str_lst, AB.isD_str_tup, List.map_cons, List.map_nil, List.length_cons, List.length_nil, List.replicate_succ, List.replicate_zero, List.cons_append, List.nil_append, List.append_nil, List.set_cons_zero, List.set_cons_succ, List.set_nil, List.getElem?_cons_zero, List.getElem?_cons_succ, List.getElem?_nil, Nat.sub_self, Nat.reduceAdd, Nat.reduceSub, Nat.zero_add, Nat.add_zero, Bool.false_eq_true, if_false, if_true, Bool.not_true, Bool.not_false, reduceIte]
    exact law_5 _ n _ hn _ _ _ _ _ _ _ _ _ _ _ h5 fun s4 s5 h5 => ⟨_, s4, s5, h5, rfl⟩
  · rintro s ⟨s3, s4, s5, h5, rfl⟩
    exact law_r15 C l Q Xe hp _ _ _ _ _ _ _ _ _ _ _ _ h5 rfl
end K15
namespace K15
open PySem PySem.Spec PyProof.Rows L2 AB
section
variable {P : Program} {w : World} {K : PySem.W.Frag} {mg : Str → Option Value} {base : Heap}
/-- a contract that asks the impossible -/
theorem none_ok {k : Nat} {f : Addr} {fd : FuncData} {ps : List Str} {ft : FT} (h : ∀ ds P X, ¬ ft ds P X) : FnOk P w K mg base (L2N.CX P w) k f fd ps (spD K ft) :=
  ⟨fun vs H Q E z => by obtain ⟨_, _, _, _, _, _, z, _⟩ := z; exact absurd z (h _ _ _), fun A outer s H args us vs Q E _ _ _ _ z => by obtain ⟨_, _, _, _, _, _, z, _⟩ := z; exact absurd z (h _ _ _)⟩
theorem FnW.up {k j : Nat} {f : Addr} {fd : FuncData} {C : Nat → Addr} (F : FnW P w K mg base k f fd C) (h : k ≤ j) : FnW P w K mg base j f fd C :=
  ⟨fun A outer s H args p i Q E hr => F.run A outer s H args p i Q E (hr.mono h)⟩
variable (T : Top K mg)
theorem o1_is_number : FnOk P w K mg base (L2N.CX P w) 1 T.d_is_number.f T.d_is_number.fd ["value", "least", "most"] (spD K ft_is_number) :=
  okN T.d_is_number.fn sc_is_number (by rintro ds P X ⟨_, _, _, rfl, _⟩; rfl) fun cdv A outer s H E hr => ⟨_, q_is_number T hr, r_is_number⟩
theorem o1_bits_for : FnOk P w K mg base (L2N.CX P w) 1 T.d_bits_for.f T.d_bits_for.fd ["many"] (spD K ft_bits_for) :=
  okN T.d_bits_for.fn sc_bits_for (by rintro ds P X ⟨_, rfl, _⟩; rfl) fun cdv A outer s H E hr => ⟨_, q_bits_for T hr, r_bits_for⟩
theorem o1_binomial : FnOk P w K mg base (L2N.CX P w) 2 T.d_binomial.f T.d_binomial.fd ["long", "ones"] (spD K (ft_binomial T.C)) :=
  okN T.d_binomial.fn sc_binomial (by rintro ds P X (⟨_, _, rfl, _⟩ | ⟨_, _, rfl, _⟩) <;> rfl) fun cdv A outer s H E hr => ⟨_, q_binomial T hr (o1_is_number T), r_binomial T.C⟩
theorem o1_rank_of : FnOk P w K mg base (L2N.CX P w) 3 T.d_rank_of.f T.d_rank_of.fd ["bits"] (spD K ft_rank_of) :=
  okN T.d_rank_of.fn sc_rank_of (by rintro ds P X ⟨_, rfl, _⟩; rfl) fun cdv A outer s H E hr => ⟨_, q_rank_of T hr (o1_binomial T), r_rank_of T.C⟩
theorem o1_bits_of : FnOk P w K mg base (L2N.CX P w) 3 T.d_bits_of.f T.d_bits_of.fd ["long", "ones", "rank"] (spD K (ft_bits_of T.C)) :=
  okN T.d_bits_of.fn sc_bits_of (by rintro ds P X ⟨_, _, _, rfl, _⟩; rfl) fun cdv A outer s H E hr => ⟨_, q_bits_of T hr (o_is_number := FnOk.up (o1_is_number T) (show 1 ≤ 2 by decide)) (o_binomial := o1_binomial T), r_bits_of T.C⟩
theorem o1_rank_width : FnOk P w K mg base (L2N.CX P w) 3 T.d_rank_width.f T.d_rank_width.fd ["long", "ones"] (spD K ft_rank_width) :=
  okN T.d_rank_width.fn sc_rank_width (by rintro ds P X ⟨_, _, rfl, _⟩; rfl) fun cdv A outer s H E hr => ⟨_, q_rank_width T hr (o1_binomial T) (FnOk.up (o1_bits_for T) (show 1 ≤ 2 by decide)), r_rank_width T.C⟩
theorem o1_cells_of : FnOk P w K mg base (L2N.CX P w) 1 T.d_cells_of.f T.d_cells_of.fd ["number", "width"] (spD K ft_cells_of) :=
  okN T.d_cells_of.fn sc_cells_of (by rintro ds P X ⟨_, _, rfl, _⟩; rfl) fun cdv A outer s H E hr => ⟨_, q_cells_of T hr, r_cells_of⟩
theorem o1_number_of : FnOk P w K mg base (L2N.CX P w) 1 T.d_number_of.f T.d_number_of.fd ["cells"] (spD K ft_number_of) :=
  okN T.d_number_of.fn sc_number_of (by rintro ds P X ⟨_, _, rfl, _⟩; rfl) fun cdv A outer s H E hr => ⟨_, q_number_of T hr, r_number_of⟩
theorem o1_draws : FnOk P w K mg base (L2N.CX P w) 1 T.d__law_draws.f T.d__law_draws.fd ["script"] (spD K ft_law_draws) :=
  okN T.d__law_draws.fn sc__law_draws (by rintro ds P X ⟨_, rfl, _⟩; rfl) fun cdv A outer s H E hr => ⟨_, q__law_draws T hr, r_draws⟩
theorem o1_take : FnOk P w K mg base (L2N.CX P w) 1 T.d__law_take.f T.d__law_take.fd ["draws", "bound"] (spR K ft_take) :=
  ok_take T.d__law_take sc__law_take fun cdv A outer s H E hr =>
    pss_cons (ps_if (pt_cmpR op_eq (pe_callB call_len_seq (by rfl) T.n_len (by decide +kernel) (pa_cons (pv 0) pa_nil)) pe_int (nomark _)) (pss_one (ps_ret pe_int)) pss_nil)
      (pss_one (ps_ret (pe_op op_mod (pe_callTy call_int1 (by rfl) T.n_int (by decide +kernel) (pa_cons (pe_bm0 PySem.F.plainAttrs_list PySem.F.slot_list_pop PySem.F.type_list_pop mt_pop (pv 0)) pa_nil)) (pv 1))))
theorem o1_alike' : ∀ n : Nat, FnOk P w K mg base (L2N.CX P w) n T.d__law_alike.f T.d__law_alike.fd ["found", "due"] (spD K (ft_law_alike' n))
  | 0 => none_ok fun _ _ _ h => h
  | n + 1 => okN T.d__law_alike.fn sc__law_alike (by rintro ds P X ⟨_, rfl, _⟩; rfl) fun cdv A outer s H E hr => ⟨_, q__law_alike T hr (o1_alike' n), r_alike n⟩
theorem o1_alike : FnOk P w K mg base (L2N.CX P w) 5 T.d__law_alike.f T.d__law_alike.fd ["found", "due"] (spD K ft_law_alike) := o1_alike' T 5
theorem o1_says : FnOk P w K mg base (L2N.CX P w) 1 T.d__law_says.f T.d__law_says.fd ["told", "due"] (spD K ft_law_says) :=
  okN T.d__law_says.fn sc__law_says (by rintro ds P X ⟨_, rfl, _⟩; rfl) fun cdv A outer s H E hr => ⟨_, q__law_says T hr, r_says⟩
theorem o1_word : FnW P w K mg base 1 T.d__law_word.f T.d__law_word.fd T.C :=
  okW T.d__law_word.fn sc__law_word fun cdv A outer s H p j Q E hot hr hz hj hq => by
    obtain ⟨vs, hvs, _⟩ := hot.2
    have is : ∀ {x : Str} {c : Addr} {p1 p2 p3 p4 : Pos}, mg x = some (.ref c) → Gl (L2H.cxH (L2N.CX P w) P w K mg base ["e", "kinds", "one"] "_law_word" (defScope s__law_word) T.d__law_word.f cdv A outer s H E p) x → (x == ("__debug__" : Str)) = false →
        PE (L2H.cxH (L2N.CX P w) P w K mg base ["e", "kinds", "one"] "_law_word" (defScope s__law_word) T.d__law_word.f cdv A outer s H E p) (.Call (.Name "isinstance" p1) [.Name "e" p2, .Name x p3] [] p4) (tIs K (T.C j) p.1 c) := fun hm hg hd =>
      pe_callB (call_isP (a := p.1) (oe := p.2) (by simp [L2H.cxH]) (T.err.e.e j hj) hz ⟨vs, hvs⟩) (by rfl) T.err.e.mi (by decide +kernel) (pa_cons (pv 0) (pa_cons (pe_glob (v := .ref _) hg hm rfl hd) pa_nil))
    have hot' : L2H.HotC (L2H.cxH (L2N.CX P w) P w K mg base ["e", "kinds", "one"] "_law_word" (defScope s__law_word) T.d__law_word.f cdv A outer s H E p) := ⟨p, hot, by simp [L2H.cxH]⟩
    refine ⟨tWordBody K T.C p.1 (T.C j), ?_, wordBody_ok T.err.e.k hj hq⟩
    exact pss_cons (ps_set (i := 1) sc__law_word.nd rfl (.inl rfl) (pe_lst (pa_cons (is T.err.e.g0 (by rfl) (by decide)) (pa_cons (is T.err.e.g1 (by rfl) (by decide)) (pa_cons (is T.err.e.g2 (by rfl) (by decide)) (pa_cons (is T.err.e.g3 (by rfl) (by decide)) (pa_cons (is T.err.e.g4 (by rfl) (by decide)) pa_nil)))))))
      (pss_cons (ps_if (pt_cmpR op_ne (pe_callB call_len_seq (by rfl) T.n_len (by decide +kernel) (pa_cons (pe_lcZ (own := [("one", 2)]) hot' sc__law_word.nd (pv 1) (show BlkOk ["e", "kinds", "one"] (defScope s__law_word) _ _ from blk_of (by decide +kernel)) (fun _ => pg_name (i := 2) sc__law_word.nd rfl (.inl rfl) (.inr rfl)) (fun _ => pts_one (pt_truth (pv 2) (by intro _; rfl))) (fun _ => pv 2)) pa_nil)) pe_int (nomark _)) (pss_one (ps_ret pe_str)) pss_nil)
      (pss_one (ps_ret (pe_ix ix_seq (pe_lst (pa_cons pe_str (pa_cons pe_str (pa_cons pe_str (pa_cons pe_str (pa_cons pe_str pa_nil)))))) (pe_bm PySem.F.plainAttrs_list PySem.F.slot_list_index PySem.F.type_list_index mt_index (pv 1) (pa_cons pe_bl pa_nil)) (fun _ _ => rfl)))))
theorem o1_lbinomial : FnOk P w K mg base (L2N.CX P w) 1 T.d__law_binomial.f T.d__law_binomial.fd ["long", "ones"] (spD K ft_law_binomial) :=
  okN T.d__law_binomial.fn sc__law_binomial (by rintro ds P X ⟨_, _, rfl, _⟩; rfl) fun cdv A outer s H E hr => ⟨_, q__law_binomial T hr, r_lbinomial⟩
theorem o1_lbits' : ∀ n : Nat, FnOk P w K mg base (L2N.CX P w) n T.d__law_bits_for.f T.d__law_bits_for.fd ["many"] (spD K (ft_law_bits_for' n))
  | 0 => none_ok fun _ _ _ h => h
  | n + 1 => okN T.d__law_bits_for.fn sc__law_bits_for (by rintro ds P X ⟨_, rfl, _⟩; rfl) fun cdv A outer s H E hr => ⟨_, q__law_bits_for T hr (o1_lbits' n), r_lbits n⟩
theorem o1_lbits : FnOk P w K mg base (L2N.CX P w) 111 T.d__law_bits_for.f T.d__law_bits_for.fd ["many"] (spD K ft_law_bits_for) := o1_lbits' T 111
theorem o1_lrank : FnOk P w K mg base (L2N.CX P w) 2 T.d__law_rank.f T.d__law_rank.fd ["bits"] (spD K ft_law_rank) :=
  okN T.d__law_rank.fn sc__law_rank (by rintro ds P X ⟨_, rfl, _⟩; rfl) fun cdv A outer s H E hr => ⟨_, q__law_rank T hr (o1_lbinomial T), r_lrank⟩
theorem o1_lcells : FnOk P w K mg base (L2N.CX P w) 1 T.d__law_cells.f T.d__law_cells.fd ["number", "wide"] (spD K ft_law_cells) :=
  okN T.d__law_cells.fn sc__law_cells (by rintro ds P X ⟨_, _, rfl, _⟩; rfl) fun cdv A outer s H E hr => ⟨_, q__law_cells T hr, r_lcells⟩
theorem o1_told : FnOk P w K mg base (L2N.CX P w) 4 T.d__law_told.f T.d__law_told.fd ["which", "long", "ones", "rank"] (spD K ft_law_told) :=
  okN T.d__law_told.fn sc__law_told (by rintro ds P X (⟨_, _, _, rfl, _⟩ | ⟨_, _, _, rfl, _⟩ | ⟨_, _, _, rfl, _⟩ | ⟨_, _, _, rfl, _⟩) <;> rfl) fun cdv A outer s H E hr =>
    ⟨_, q__law_told T hr (FnOk.up (o1_binomial T) (show 2 ≤ 3 by decide)) (o1_bits_of T) (FnW.up (o1_word T) (show 1 ≤ 3 by decide)), r_told T.C⟩
theorem o1_lrows' : ∀ n : Nat, n ≤ 9 → FnOk P w K mg base (L2N.CX P w) n T.d__law_rows.f T.d__law_rows.fd ["long", "ones"] (spD K (ft_law_rows' n))
  | 0, _ => none_ok fun _ _ _ h => h
  | n + 1, hn => okN T.d__law_rows.fn sc__law_rows (by rintro ds P X ⟨_, _, rfl, _⟩; rfl) fun cdv A outer s H E hr => ⟨_, q__law_rows T hr (o1_lrows' n (by omega)), r_lrows n (by omega)⟩
theorem o1_lrows : FnOk P w K mg base (L2N.CX P w) 9 T.d__law_rows.f T.d__law_rows.fd ["long", "ones"] (spD K ft_law_rows) := o1_lrows' T 9 (Nat.le_refl _)
theorem o1_law : FnOk P w K mg base (L2N.CX P w) 112 T.d_law.f T.d_law.fd ["script"] (spD K ft_law) :=
  okN T.d_law.fn sc_law (by rintro ds P X ⟨_, rfl, _⟩; rfl) fun cdv A outer s H E hr =>
    ⟨_, q_law T hr (o__law_draws := FnOk.up (o1_draws T) (show 1 ≤ 111 by decide)) (o__law_take := FnOk.up (o1_take T) (show 1 ≤ 111 by decide)) (o__law_rows := FnOk.up (o1_lrows T) (show 9 ≤ 111 by decide)) (o__law_bits_for := o1_lbits T)
      (o_rank_width := FnOk.up (o1_rank_width T) (show 3 ≤ 111 by decide)) (o__law_told := FnOk.up (o1_told T) (show 4 ≤ 111 by decide)) (o__law_alike := FnOk.up (o1_alike T) (show 5 ≤ 111 by decide)) (o_rank_of := FnOk.up (o1_rank_of T) (show 3 ≤ 111 by decide))
      (o__law_rank := FnOk.up (o1_lrank T) (show 2 ≤ 111 by decide)) (o__law_binomial := FnOk.up (o1_lbinomial T) (show 1 ≤ 111 by decide)) (o__law_says := FnOk.up (o1_says T) (show 1 ≤ 111 by decide)) (o__law_cells := FnOk.up (o1_lcells T) (show 1 ≤ 111 by decide))
      (o_number_of := FnOk.up (o1_number_of T) (show 1 ≤ 111 by decide)) (o_cells_of := FnOk.up (o1_cells_of T) (show 1 ≤ 111 by decide)) (o_bits_for := FnOk.up (o1_bits_for T) (show 1 ≤ 111 by decide)) (o_binomial := FnOk.up (o1_binomial T) (show 2 ≤ 111 by decide)), r_law T.C⟩
end
end K15
namespace K15
open PySem PySem.Spec PyProof.Rows L2 AB
theorem all_mk {l : PySem.W.OpenLaw} {w : World} {K : PySem.W.Frag} {h : Heap} {mg : Str → Option Value} {fa : Addr} (X : K.In h) (G : h.Ns mainGlobals mg) (hfa : mg "law" = some (.ref fa))
    {f1 f2 f3 f4 f5 f6 f7 f8 f9 f10 f11 f12 f13 f14 f15 f16 f17 f18 f19 f20 : Addr}
    {od1 an1 od2 an2 od3 an3 od4 an4 od5 an5 od6 an6 od7 an7 od8 an8 od9 an9 od10 an10 od11 an11 od12 an12 od13 an13 od14 an14 od15 an15 od16 an16 od17 an17 od18 an18 od19 an19 od20 an20 : Option Addr}
    {sl1 sl2 sl3 sl4 sl5 sl6 sl7 sl8 sl9 sl10 sl11 sl12 sl13 sl14 sl15 sl16 sl17 sl18 sl19 sl20 : Array (Option Value)}
    {oc1 kV1 dc1 pm1 cd1 ct1 oc2 kV2 dc2 pm2 cd2 ct2 oc3 kV3 dc3 pm3 cd3 ct3 oc4 kV4 dc4 pm4 cd4 ct4 oc5 kV5 dc5 pm5 cd5 ct5 oc6 kV6 dc6 pm6 cd6 ct6 oc7 kV7 dc7 pm7 cd7 ct7 oc8 kV8 dc8 pm8 cd8 ct8 oc9 kV9 dc9 pm9 cd9 ct9 oc10 kV10 dc10 pm10 cd10 ct10 oc11 kV11 dc11 pm11 cd11 ct11 oc12 kV12 dc12 pm12 cd12 ct12 oc13 kV13 dc13 pm13 cd13 ct13 oc14 kV14 dc14 pm14 cd14 ct14 oc15 kV15 dc15 pm15 cd15 ct15 oc16 kV16 dc16 pm16 cd16 ct16 oc17 kV17 dc17 pm17 cd17 ct17 oc18 kV18 dc18 pm18 cd18 ct18 oc19 kV19 dc19 pm19 cd19 ct19 oc20 kV20 dc20 pm20 cd20 ct20 : Value}
    {t_MOST_LONG : Tok}
    {e0 e1 e2 e3 e4 eB : Addr}
    (a1 : PySem.W.nsIn K mainGlobals "is_number" = some (some (.ref f1)))
    (l1 : K.lookup f1 = some ⟨oc1, od1, .func (PySem.W.fnOf "is_number" "is_number" (defArgs s_is_number) (defBody s_is_number) (defScope s_is_number) .none kV1 dc1 pm1 an1 cd1 ct1), sl1⟩)
    (c1 : PySem.W.codeIn K cd1 "is_number" = true) (k1 : PySem.W.keepIn K (.ref f1) = true)
    (a2 : PySem.W.nsIn K mainGlobals "bits_for" = some (some (.ref f2)))
    (l2 : K.lookup f2 = some ⟨oc2, od2, .func (PySem.W.fnOf "bits_for" "bits_for" (defArgs s_bits_for) (defBody s_bits_for) (defScope s_bits_for) .none kV2 dc2 pm2 an2 cd2 ct2), sl2⟩)
    (c2 : PySem.W.codeIn K cd2 "bits_for" = true) (k2 : PySem.W.keepIn K (.ref f2) = true)
    (a3 : PySem.W.nsIn K mainGlobals "binomial" = some (some (.ref f3)))
    (l3 : K.lookup f3 = some ⟨oc3, od3, .func (PySem.W.fnOf "binomial" "binomial" (defArgs s_binomial) (defBody s_binomial) (defScope s_binomial) .none kV3 dc3 pm3 an3 cd3 ct3), sl3⟩)
    (c3 : PySem.W.codeIn K cd3 "binomial" = true) (k3 : PySem.W.keepIn K (.ref f3) = true)
    (a4 : PySem.W.nsIn K mainGlobals "rank_of" = some (some (.ref f4)))
    (l4 : K.lookup f4 = some ⟨oc4, od4, .func (PySem.W.fnOf "rank_of" "rank_of" (defArgs s_rank_of) (defBody s_rank_of) (defScope s_rank_of) .none kV4 dc4 pm4 an4 cd4 ct4), sl4⟩)
    (c4 : PySem.W.codeIn K cd4 "rank_of" = true) (k4 : PySem.W.keepIn K (.ref f4) = true)
    (a5 : PySem.W.nsIn K mainGlobals "bits_of" = some (some (.ref f5)))
    (l5 : K.lookup f5 = some ⟨oc5, od5, .func (PySem.W.fnOf "bits_of" "bits_of" (defArgs s_bits_of) (defBody s_bits_of) (defScope s_bits_of) .none kV5 dc5 pm5 an5 cd5 ct5), sl5⟩)
    (c5 : PySem.W.codeIn K cd5 "bits_of" = true) (k5 : PySem.W.keepIn K (.ref f5) = true)
    (a6 : PySem.W.nsIn K mainGlobals "rank_width" = some (some (.ref f6)))
    (l6 : K.lookup f6 = some ⟨oc6, od6, .func (PySem.W.fnOf "rank_width" "rank_width" (defArgs s_rank_width) (defBody s_rank_width) (defScope s_rank_width) .none kV6 dc6 pm6 an6 cd6 ct6), sl6⟩)
    (c6 : PySem.W.codeIn K cd6 "rank_width" = true) (k6 : PySem.W.keepIn K (.ref f6) = true)
    (a7 : PySem.W.nsIn K mainGlobals "cells_of" = some (some (.ref f7)))
    (l7 : K.lookup f7 = some ⟨oc7, od7, .func (PySem.W.fnOf "cells_of" "cells_of" (defArgs s_cells_of) (defBody s_cells_of) (defScope s_cells_of) .none kV7 dc7 pm7 an7 cd7 ct7), sl7⟩)
    (c7 : PySem.W.codeIn K cd7 "cells_of" = true) (k7 : PySem.W.keepIn K (.ref f7) = true)
    (a8 : PySem.W.nsIn K mainGlobals "number_of" = some (some (.ref f8)))
    (l8 : K.lookup f8 = some ⟨oc8, od8, .func (PySem.W.fnOf "number_of" "number_of" (defArgs s_number_of) (defBody s_number_of) (defScope s_number_of) .none kV8 dc8 pm8 an8 cd8 ct8), sl8⟩)
    (c8 : PySem.W.codeIn K cd8 "number_of" = true) (k8 : PySem.W.keepIn K (.ref f8) = true)
    (a9 : PySem.W.nsIn K mainGlobals "_law_draws" = some (some (.ref f9)))
    (l9 : K.lookup f9 = some ⟨oc9, od9, .func (PySem.W.fnOf "_law_draws" "_law_draws" (defArgs s__law_draws) (defBody s__law_draws) (defScope s__law_draws) .none kV9 dc9 pm9 an9 cd9 ct9), sl9⟩)
    (c9 : PySem.W.codeIn K cd9 "_law_draws" = true) (k9 : PySem.W.keepIn K (.ref f9) = true)
    (a10 : PySem.W.nsIn K mainGlobals "_law_take" = some (some (.ref f10)))
    (l10 : K.lookup f10 = some ⟨oc10, od10, .func (PySem.W.fnOf "_law_take" "_law_take" (defArgs s__law_take) (defBody s__law_take) (defScope s__law_take) .none kV10 dc10 pm10 an10 cd10 ct10), sl10⟩)
    (c10 : PySem.W.codeIn K cd10 "_law_take" = true) (k10 : PySem.W.keepIn K (.ref f10) = true)
    (a11 : PySem.W.nsIn K mainGlobals "_law_alike" = some (some (.ref f11)))
    (l11 : K.lookup f11 = some ⟨oc11, od11, .func (PySem.W.fnOf "_law_alike" "_law_alike" (defArgs s__law_alike) (defBody s__law_alike) (defScope s__law_alike) .none kV11 dc11 pm11 an11 cd11 ct11), sl11⟩)
    (c11 : PySem.W.codeIn K cd11 "_law_alike" = true) (k11 : PySem.W.keepIn K (.ref f11) = true)
    (a12 : PySem.W.nsIn K mainGlobals "_law_says" = some (some (.ref f12)))
    (l12 : K.lookup f12 = some ⟨oc12, od12, .func (PySem.W.fnOf "_law_says" "_law_says" (defArgs s__law_says) (defBody s__law_says) (defScope s__law_says) .none kV12 dc12 pm12 an12 cd12 ct12), sl12⟩)
    (c12 : PySem.W.codeIn K cd12 "_law_says" = true) (k12 : PySem.W.keepIn K (.ref f12) = true)
    (a13 : PySem.W.nsIn K mainGlobals "_law_word" = some (some (.ref f13)))
    (l13 : K.lookup f13 = some ⟨oc13, od13, .func (PySem.W.fnOf "_law_word" "_law_word" (defArgs s__law_word) (defBody s__law_word) (defScope s__law_word) .none kV13 dc13 pm13 an13 cd13 ct13), sl13⟩)
    (c13 : PySem.W.codeIn K cd13 "_law_word" = true) (k13 : PySem.W.keepIn K (.ref f13) = true)
    (a14 : PySem.W.nsIn K mainGlobals "_law_binomial" = some (some (.ref f14)))
    (l14 : K.lookup f14 = some ⟨oc14, od14, .func (PySem.W.fnOf "_law_binomial" "_law_binomial" (defArgs s__law_binomial) (defBody s__law_binomial) (defScope s__law_binomial) .none kV14 dc14 pm14 an14 cd14 ct14), sl14⟩)
    (c14 : PySem.W.codeIn K cd14 "_law_binomial" = true) (k14 : PySem.W.keepIn K (.ref f14) = true)
    (a15 : PySem.W.nsIn K mainGlobals "_law_bits_for" = some (some (.ref f15)))
    (l15 : K.lookup f15 = some ⟨oc15, od15, .func (PySem.W.fnOf "_law_bits_for" "_law_bits_for" (defArgs s__law_bits_for) (defBody s__law_bits_for) (defScope s__law_bits_for) .none kV15 dc15 pm15 an15 cd15 ct15), sl15⟩)
    (c15 : PySem.W.codeIn K cd15 "_law_bits_for" = true) (k15 : PySem.W.keepIn K (.ref f15) = true)
    (a16 : PySem.W.nsIn K mainGlobals "_law_rank" = some (some (.ref f16)))
    (l16 : K.lookup f16 = some ⟨oc16, od16, .func (PySem.W.fnOf "_law_rank" "_law_rank" (defArgs s__law_rank) (defBody s__law_rank) (defScope s__law_rank) .none kV16 dc16 pm16 an16 cd16 ct16), sl16⟩)
    (c16 : PySem.W.codeIn K cd16 "_law_rank" = true) (k16 : PySem.W.keepIn K (.ref f16) = true)
    (a17 : PySem.W.nsIn K mainGlobals "_law_cells" = some (some (.ref f17)))
    (l17 : K.lookup f17 = some ⟨oc17, od17, .func (PySem.W.fnOf "_law_cells" "_law_cells" (defArgs s__law_cells) (defBody s__law_cells) (defScope s__law_cells) .none kV17 dc17 pm17 an17 cd17 ct17), sl17⟩)
    (c17 : PySem.W.codeIn K cd17 "_law_cells" = true) (k17 : PySem.W.keepIn K (.ref f17) = true)
    (a18 : PySem.W.nsIn K mainGlobals "_law_told" = some (some (.ref f18)))
    (l18 : K.lookup f18 = some ⟨oc18, od18, .func (PySem.W.fnOf "_law_told" "_law_told" (defArgs s__law_told) (defBody s__law_told) (defScope s__law_told) .none kV18 dc18 pm18 an18 cd18 ct18), sl18⟩)
    (c18 : PySem.W.codeIn K cd18 "_law_told" = true) (k18 : PySem.W.keepIn K (.ref f18) = true)
    (a19 : PySem.W.nsIn K mainGlobals "_law_rows" = some (some (.ref f19)))
    (l19 : K.lookup f19 = some ⟨oc19, od19, .func (PySem.W.fnOf "_law_rows" "_law_rows" (defArgs s__law_rows) (defBody s__law_rows) (defScope s__law_rows) .none kV19 dc19 pm19 an19 cd19 ct19), sl19⟩)
    (c19 : PySem.W.codeIn K cd19 "_law_rows" = true) (k19 : PySem.W.keepIn K (.ref f19) = true)
    (a20 : PySem.W.nsIn K mainGlobals "law" = some (some (.ref f20)))
    (l20 : K.lookup f20 = some ⟨oc20, od20, .func (PySem.W.fnOf "law" "law" (defArgs s_law) (defBody s_law) (defScope s_law) .none kV20 dc20 pm20 an20 cd20 ct20), sl20⟩)
    (c20 : PySem.W.codeIn K cd20 "law" = true) (k20 : PySem.W.keepIn K (.ref f20) = true)
    (m_MOST_LONG : PySem.W.nsIn K mainGlobals "MOST_LONG" = some (some (.int 4000 t_MOST_LONG)))
    (z_abs : PySem.W.nsIn K mainGlobals "abs" = some none)
    (z_bool : PySem.W.nsIn K mainGlobals "bool" = some none)
    (z_enumerate : PySem.W.nsIn K mainGlobals "enumerate" = some none)
    (z_int : PySem.W.nsIn K mainGlobals "int" = some none)
    (z_isinstance : PySem.W.nsIn K mainGlobals "isinstance" = some none)
    (z_len : PySem.W.nsIn K mainGlobals "len" = some none)
    (z_list : PySem.W.nsIn K mainGlobals "list" = some none)
    (z_min : PySem.W.nsIn K mainGlobals "min" = some none)
    (z_range : PySem.W.nsIn K mainGlobals "range" = some none)
    (z_reversed : PySem.W.nsIn K mainGlobals "reversed" = some none)
    (z_str : PySem.W.nsIn K mainGlobals "str" = some none)
    (z_sum : PySem.W.nsIn K mainGlobals "sum" = some none)
    (z_tuple : PySem.W.nsIn K mainGlobals "tuple" = some none)
    (eaB : PySem.W.nsIn K mainGlobals "BitsError" = some (some (.ref eB))) (esB : PySem.W.subIn K (.ref eB) (.type "BaseException") = some true) (edB : PySem.W.hasDictIn K eB = true) (etB : PySem.W.typeIn K (.ref eB) = some (.type "type"))
    (ea0 : PySem.W.nsIn K mainGlobals "OutOfRange" = some (some (.ref e0)))
    (ex0 : PySem.W.excIn K e0 [.type "ValueError", .type "Exception", .type "BaseException", .type "object"] "ValueError.__new__" = true)
    (ek0 : PySem.W.keepIn K (.ref e0) = true) (et0 : PySem.W.typeIn K (.ref e0) = some (.type "type"))
    (eg0 : PySem.W.findIn K (.ref e0) "__getattribute__" = some (some (.builtin "BaseException.__getattribute__"))) (eh0 : PySem.W.findIn K (.ref e0) "__getattr__" = some none) (es0 : PySem.W.subIn K (.ref e0) (.type "BaseException") = some true)
    (ed0 : PySem.W.hasDictIn K e0 = true) (el0 : PySem.W.findIn K (.ref e0) "__class__" = some (some (.builtin "object.__class__"))) (em0 : PySem.W.mroIn K e0 (.type "object") = some true)
    (eb0 : PySem.W.subIn K (.ref e0) (.ref eB) = some true)
    (ea1 : PySem.W.nsIn K mainGlobals "Malformed" = some (some (.ref e1)))
    (ex1 : PySem.W.excIn K e1 [.type "ValueError", .type "Exception", .type "BaseException", .type "object"] "ValueError.__new__" = true)
    (ek1 : PySem.W.keepIn K (.ref e1) = true) (et1 : PySem.W.typeIn K (.ref e1) = some (.type "type"))
    (eg1 : PySem.W.findIn K (.ref e1) "__getattribute__" = some (some (.builtin "BaseException.__getattribute__"))) (eh1 : PySem.W.findIn K (.ref e1) "__getattr__" = some none) (es1 : PySem.W.subIn K (.ref e1) (.type "BaseException") = some true)
    (ed1 : PySem.W.hasDictIn K e1 = true) (el1 : PySem.W.findIn K (.ref e1) "__class__" = some (some (.builtin "object.__class__"))) (em1 : PySem.W.mroIn K e1 (.type "object") = some true)
    (eb1 : PySem.W.subIn K (.ref e1) (.ref eB) = some true)
    (ea2 : PySem.W.nsIn K mainGlobals "NotThere" = some (some (.ref e2)))
    (ex2 : PySem.W.excIn K e2 [.type "ValueError", .type "Exception", .type "BaseException", .type "object"] "ValueError.__new__" = true)
    (ek2 : PySem.W.keepIn K (.ref e2) = true) (et2 : PySem.W.typeIn K (.ref e2) = some (.type "type"))
    (eg2 : PySem.W.findIn K (.ref e2) "__getattribute__" = some (some (.builtin "BaseException.__getattribute__"))) (eh2 : PySem.W.findIn K (.ref e2) "__getattr__" = some none) (es2 : PySem.W.subIn K (.ref e2) (.type "BaseException") = some true)
    (ed2 : PySem.W.hasDictIn K e2 = true) (el2 : PySem.W.findIn K (.ref e2) "__class__" = some (some (.builtin "object.__class__"))) (em2 : PySem.W.mroIn K e2 (.type "object") = some true)
    (eb2 : PySem.W.subIn K (.ref e2) (.ref eB) = some true)
    (ea3 : PySem.W.nsIn K mainGlobals "Refused" = some (some (.ref e3)))
    (ex3 : PySem.W.excIn K e3 [.type "ValueError", .type "Exception", .type "BaseException", .type "object"] "ValueError.__new__" = true)
    (ek3 : PySem.W.keepIn K (.ref e3) = true) (et3 : PySem.W.typeIn K (.ref e3) = some (.type "type"))
    (eg3 : PySem.W.findIn K (.ref e3) "__getattribute__" = some (some (.builtin "BaseException.__getattribute__"))) (eh3 : PySem.W.findIn K (.ref e3) "__getattr__" = some none) (es3 : PySem.W.subIn K (.ref e3) (.type "BaseException") = some true)
    (ed3 : PySem.W.hasDictIn K e3 = true) (el3 : PySem.W.findIn K (.ref e3) "__class__" = some (some (.builtin "object.__class__"))) (em3 : PySem.W.mroIn K e3 (.type "object") = some true)
    (eb3 : PySem.W.subIn K (.ref e3) (.ref eB) = some true)
    (ea4 : PySem.W.nsIn K mainGlobals "TooMuch" = some (some (.ref e4)))
    (ex4 : PySem.W.excIn K e4 [.type "ValueError", .type "Exception", .type "BaseException", .type "object"] "ValueError.__new__" = true)
    (ek4 : PySem.W.keepIn K (.ref e4) = true) (et4 : PySem.W.typeIn K (.ref e4) = some (.type "type"))
    (eg4 : PySem.W.findIn K (.ref e4) "__getattribute__" = some (some (.builtin "BaseException.__getattribute__"))) (eh4 : PySem.W.findIn K (.ref e4) "__getattr__" = some none) (es4 : PySem.W.subIn K (.ref e4) (.type "BaseException") = some true)
    (ed4 : PySem.W.hasDictIn K e4 = true) (el4 : PySem.W.findIn K (.ref e4) "__class__" = some (some (.builtin "object.__class__"))) (em4 : PySem.W.mroIn K e4 (.type "object") = some true)
    (eb4 : PySem.W.subIn K (.ref e4) (.ref eB) = some true)
    (u01 : PySem.W.subIn K (.ref e0) (.ref e1) = some false) (v01 : ((Value.ref e0 == Value.ref e1) : Bool) = false)
    (u02 : PySem.W.subIn K (.ref e0) (.ref e2) = some false) (v02 : ((Value.ref e0 == Value.ref e2) : Bool) = false)
    (u03 : PySem.W.subIn K (.ref e0) (.ref e3) = some false) (v03 : ((Value.ref e0 == Value.ref e3) : Bool) = false)
    (u04 : PySem.W.subIn K (.ref e0) (.ref e4) = some false) (v04 : ((Value.ref e0 == Value.ref e4) : Bool) = false)
    (u10 : PySem.W.subIn K (.ref e1) (.ref e0) = some false) (v10 : ((Value.ref e1 == Value.ref e0) : Bool) = false)
    (u12 : PySem.W.subIn K (.ref e1) (.ref e2) = some false) (v12 : ((Value.ref e1 == Value.ref e2) : Bool) = false)
    (u13 : PySem.W.subIn K (.ref e1) (.ref e3) = some false) (v13 : ((Value.ref e1 == Value.ref e3) : Bool) = false)
    (u14 : PySem.W.subIn K (.ref e1) (.ref e4) = some false) (v14 : ((Value.ref e1 == Value.ref e4) : Bool) = false)
    (u20 : PySem.W.subIn K (.ref e2) (.ref e0) = some false) (v20 : ((Value.ref e2 == Value.ref e0) : Bool) = false)
    (u21 : PySem.W.subIn K (.ref e2) (.ref e1) = some false) (v21 : ((Value.ref e2 == Value.ref e1) : Bool) = false)
    (u23 : PySem.W.subIn K (.ref e2) (.ref e3) = some false) (v23 : ((Value.ref e2 == Value.ref e3) : Bool) = false)
    (u24 : PySem.W.subIn K (.ref e2) (.ref e4) = some false) (v24 : ((Value.ref e2 == Value.ref e4) : Bool) = false)
    (u30 : PySem.W.subIn K (.ref e3) (.ref e0) = some false) (v30 : ((Value.ref e3 == Value.ref e0) : Bool) = false)
    (u31 : PySem.W.subIn K (.ref e3) (.ref e1) = some false) (v31 : ((Value.ref e3 == Value.ref e1) : Bool) = false)
    (u32 : PySem.W.subIn K (.ref e3) (.ref e2) = some false) (v32 : ((Value.ref e3 == Value.ref e2) : Bool) = false)
    (u34 : PySem.W.subIn K (.ref e3) (.ref e4) = some false) (v34 : ((Value.ref e3 == Value.ref e4) : Bool) = false)
    (u40 : PySem.W.subIn K (.ref e4) (.ref e0) = some false) (v40 : ((Value.ref e4 == Value.ref e0) : Bool) = false)
    (u41 : PySem.W.subIn K (.ref e4) (.ref e1) = some false) (v41 : ((Value.ref e4 == Value.ref e1) : Bool) = false)
    (u42 : PySem.W.subIn K (.ref e4) (.ref e2) = some false) (v42 : ((Value.ref e4 == Value.ref e2) : Bool) = false)
    (u43 : PySem.W.subIn K (.ref e4) (.ref e3) = some false) (v43 : ((Value.ref e4 == Value.ref e3) : Bool) = false)
    (hn : PySem.W.specialIn K (.builtin "object.__class__") "__get__" = some (some (.builtin "getset_descriptor.__get__"))) (ht : PySem.W.takesIn K (.builtin "object.__class__") = some true) :
    ∃ fd : FuncData, (∀ (s : Shared) (v : Value), BindsTo s fd ⟨[v], []⟩ [("script", v)]) ∧ ∀ base : Heap, K.In base → base.Ns mainGlobals mg → FnOk l.prog w K mg base (L2N.CX l.prog w) 112 fa fd ["script"] (spD K ft_law) := by
  have e := hfa.symm.trans (PySem.W.mg_of X G a20)
  cases e
  have F1 := fun_mk (st := s_is_number) l1 c1 k1
  have b1 := F1.binds (ps := ["value", "least", "most"]) fun _ _ _ _ _ _ us hl => match us, hl with | [_, _, _], _ => rfl
  have F2 := fun_mk (st := s_bits_for) l2 c2 k2
  have b2 := F2.binds (ps := ["many"]) fun _ _ _ _ _ _ us hl => match us, hl with | [_], _ => rfl
  have F3 := fun_mk (st := s_binomial) l3 c3 k3
  have b3 := F3.binds (ps := ["long", "ones"]) fun _ _ _ _ _ _ us hl => match us, hl with | [_, _], _ => rfl
  have F4 := fun_mk (st := s_rank_of) l4 c4 k4
  have b4 := F4.binds (ps := ["bits"]) fun _ _ _ _ _ _ us hl => match us, hl with | [_], _ => rfl
  have F5 := fun_mk (st := s_bits_of) l5 c5 k5
  have b5 := F5.binds (ps := ["long", "ones", "rank"]) fun _ _ _ _ _ _ us hl => match us, hl with | [_, _, _], _ => rfl
  have F6 := fun_mk (st := s_rank_width) l6 c6 k6
  have b6 := F6.binds (ps := ["long", "ones"]) fun _ _ _ _ _ _ us hl => match us, hl with | [_, _], _ => rfl
  have F7 := fun_mk (st := s_cells_of) l7 c7 k7
  have b7 := F7.binds (ps := ["number", "width"]) fun _ _ _ _ _ _ us hl => match us, hl with | [_, _], _ => rfl
  have F8 := fun_mk (st := s_number_of) l8 c8 k8
  have b8 := F8.binds (ps := ["cells"]) fun _ _ _ _ _ _ us hl => match us, hl with | [_], _ => rfl
  have F9 := fun_mk (st := s__law_draws) l9 c9 k9
  have b9 := F9.binds (ps := ["script"]) fun _ _ _ _ _ _ us hl => match us, hl with | [_], _ => rfl
  have F10 := fun_mk (st := s__law_take) l10 c10 k10
  have b10 := F10.binds (ps := ["draws", "bound"]) fun _ _ _ _ _ _ us hl => match us, hl with | [_, _], _ => rfl
  have F11 := fun_mk (st := s__law_alike) l11 c11 k11
  have b11 := F11.binds (ps := ["found", "due"]) fun _ _ _ _ _ _ us hl => match us, hl with | [_, _], _ => rfl
  have F12 := fun_mk (st := s__law_says) l12 c12 k12
  have b12 := F12.binds (ps := ["told", "due"]) fun _ _ _ _ _ _ us hl => match us, hl with | [_, _], _ => rfl
  have F13 := fun_mk (st := s__law_word) l13 c13 k13
  have b13 := F13.binds (ps := ["e"]) fun _ _ _ _ _ _ us hl => match us, hl with | [_], _ => rfl
  have F14 := fun_mk (st := s__law_binomial) l14 c14 k14
  have b14 := F14.binds (ps := ["long", "ones"]) fun _ _ _ _ _ _ us hl => match us, hl with | [_, _], _ => rfl
  have F15 := fun_mk (st := s__law_bits_for) l15 c15 k15
  have b15 := F15.binds (ps := ["many"]) fun _ _ _ _ _ _ us hl => match us, hl with | [_], _ => rfl
  have F16 := fun_mk (st := s__law_rank) l16 c16 k16
  have b16 := F16.binds (ps := ["bits"]) fun _ _ _ _ _ _ us hl => match us, hl with | [_], _ => rfl
  have F17 := fun_mk (st := s__law_cells) l17 c17 k17
  have b17 := F17.binds (ps := ["number", "wide"]) fun _ _ _ _ _ _ us hl => match us, hl with | [_, _], _ => rfl
  have F18 := fun_mk (st := s__law_told) l18 c18 k18
  have b18 := F18.binds (ps := ["which", "long", "ones", "rank"]) fun _ _ _ _ _ _ us hl => match us, hl with | [_, _, _, _], _ => rfl
  have F19 := fun_mk (st := s__law_rows) l19 c19 k19
  have b19 := F19.binds (ps := ["long", "ones"]) fun _ _ _ _ _ _ us hl => match us, hl with | [_, _], _ => rfl
  have F20 := fun_mk (st := s_law) l20 c20 k20
  have b20 := F20.binds (ps := ["script"]) fun _ _ _ _ _ _ us hl => match us, hl with | [_], _ => rfl
  let C : Nat → Addr := fun j => match j with | 0 => e0 | 1 => e1 | 2 => e2 | 3 => e3 | _ => e4
  have own : ∀ i, i < 5 → ExcC K (C i) := fun i hi => match i, hi with
    | 0, _ => ⟨eg0, eh0, es0, ed0, el0, hn, ht, em0⟩
    | 1, _ => ⟨eg1, eh1, es1, ed1, el1, hn, ht, em1⟩
    | 2, _ => ⟨eg2, eh2, es2, ed2, el2, hn, ht, em2⟩
    | 3, _ => ⟨eg3, eh3, es3, ed3, el3, hn, ht, em3⟩
    | 4, _ => ⟨eg4, eh4, es4, ed4, el4, hn, ht, em4⟩
  have slf : ∀ c : Addr, PySem.W.kitOne K (.ref c) (.ref c) = some true := fun c => if_pos (beq_self_eq_true _)
  have kit : ∀ {a b : Addr}, ((Value.ref a == Value.ref b) : Bool) = false → (PySem.W.clsIn K b).isSome = true → PySem.W.typeIn K (.ref b) = some (.type "type") → PySem.W.subIn K (.ref a) (.ref b) = some false → PySem.W.kitOne K (.ref a) (.ref b) = some false := fun h1 h2 h3 h4 => kit_no h1 h2 h3 h4
  have mat : ∀ i j, i < 5 → j < 5 → PySem.W.kitOne K (.ref (C i)) (.ref (C j)) = some (decide (i = j)) := fun i j hi hj => match i, j, hi, hj with
    | 0, 0, _, _ => slf _
    | 0, 1, _, _ => kit v01 (cls_some ed1) et1 u01
    | 0, 2, _, _ => kit v02 (cls_some ed2) et2 u02
    | 0, 3, _, _ => kit v03 (cls_some ed3) et3 u03
    | 0, 4, _, _ => kit v04 (cls_some ed4) et4 u04
    | 1, 0, _, _ => kit v10 (cls_some ed0) et0 u10
    | 1, 1, _, _ => slf _
    | 1, 2, _, _ => kit v12 (cls_some ed2) et2 u12
    | 1, 3, _, _ => kit v13 (cls_some ed3) et3 u13
    | 1, 4, _, _ => kit v14 (cls_some ed4) et4 u14
    | 2, 0, _, _ => kit v20 (cls_some ed0) et0 u20
    | 2, 1, _, _ => kit v21 (cls_some ed1) et1 u21
    | 2, 2, _, _ => slf _
    | 2, 3, _, _ => kit v23 (cls_some ed3) et3 u23
    | 2, 4, _, _ => kit v24 (cls_some ed4) et4 u24
    | 3, 0, _, _ => kit v30 (cls_some ed0) et0 u30
    | 3, 1, _, _ => kit v31 (cls_some ed1) et1 u31
    | 3, 2, _, _ => kit v32 (cls_some ed2) et2 u32
    | 3, 3, _, _ => slf _
    | 3, 4, _, _ => kit v34 (cls_some ed4) et4 u34
    | 4, 0, _, _ => kit v40 (cls_some ed0) et0 u40
    | 4, 1, _, _ => kit v41 (cls_some ed1) et1 u41
    | 4, 2, _, _ => kit v42 (cls_some ed2) et2 u42
    | 4, 3, _, _ => kit v43 (cls_some ed3) et3 u43
    | 4, 4, _, _ => slf _
  have er : Errs K mg C := ⟨PySem.W.mg_of X G ea0, PySem.W.mg_of X G ea1, PySem.W.mg_of X G ea2, PySem.W.mg_of X G ea3, PySem.W.mg_of X G ea4, own, mat, PySem.W.mg_none_of X G z_isinstance, PySem.W.mg_none_of X G z_len⟩
  have ef : ErrF K mg C [.type "ValueError", .type "Exception", .type "BaseException", .type "object"] "ValueError.__new__" "ValueError.__init__" eB := ⟨PySem.F.excBase_ValueError, er, fun j hj => match j, hj with | 0, _ => ex0 | 1, _ => ex1 | 2, _ => ex2 | 3, _ => ex3 | 4, _ => ex4,
    fun j hj => match j, hj with | 0, _ => ek0 | 1, _ => ek1 | 2, _ => ek2 | 3, _ => ek3 | 4, _ => ek4, fun j hj => match j, hj with | 0, _ => et0 | 1, _ => et1 | 2, _ => et2 | 3, _ => et3 | 4, _ => et4, PySem.W.mg_of X G eaB,
    fun j hj => match j, hj with | 0, _ => PySem.W.exm_ref esB edB etB eb0 | 1, _ => PySem.W.exm_ref esB edB etB eb1 | 2, _ => PySem.W.exm_ref esB edB etB eb2 | 3, _ => PySem.W.exm_ref esB edB etB eb3 | 4, _ => PySem.W.exm_ref esB edB etB eb4⟩
  let T : Top K mg := {
    d_is_number := ⟨f1, _, F1, PySem.W.mg_of X G a1, b1⟩,
    d_bits_for := ⟨f2, _, F2, PySem.W.mg_of X G a2, b2⟩,
    d_binomial := ⟨f3, _, F3, PySem.W.mg_of X G a3, b3⟩,
    d_rank_of := ⟨f4, _, F4, PySem.W.mg_of X G a4, b4⟩,
    d_bits_of := ⟨f5, _, F5, PySem.W.mg_of X G a5, b5⟩,
    d_rank_width := ⟨f6, _, F6, PySem.W.mg_of X G a6, b6⟩,
    d_cells_of := ⟨f7, _, F7, PySem.W.mg_of X G a7, b7⟩,
    d_number_of := ⟨f8, _, F8, PySem.W.mg_of X G a8, b8⟩,
    d__law_draws := ⟨f9, _, F9, PySem.W.mg_of X G a9, b9⟩,
    d__law_take := ⟨f10, _, F10, PySem.W.mg_of X G a10, b10⟩,
    d__law_alike := ⟨f11, _, F11, PySem.W.mg_of X G a11, b11⟩,
    d__law_says := ⟨f12, _, F12, PySem.W.mg_of X G a12, b12⟩,
    d__law_word := ⟨f13, _, F13, PySem.W.mg_of X G a13, b13⟩,
    d__law_binomial := ⟨f14, _, F14, PySem.W.mg_of X G a14, b14⟩,
    d__law_bits_for := ⟨f15, _, F15, PySem.W.mg_of X G a15, b15⟩,
    d__law_rank := ⟨f16, _, F16, PySem.W.mg_of X G a16, b16⟩,
    d__law_cells := ⟨f17, _, F17, PySem.W.mg_of X G a17, b17⟩,
    d__law_told := ⟨f18, _, F18, PySem.W.mg_of X G a18, b18⟩,
    d__law_rows := ⟨f19, _, F19, PySem.W.mg_of X G a19, b19⟩,
    d_law := ⟨fa, _, F20, hfa, b20⟩,
    t_MOST_LONG := t_MOST_LONG,
    g_MOST_LONG := PySem.W.mg_of X G m_MOST_LONG,
    n_abs := PySem.W.mg_none_of X G z_abs,
    n_bool := PySem.W.mg_none_of X G z_bool,
    n_enumerate := PySem.W.mg_none_of X G z_enumerate,
    n_int := PySem.W.mg_none_of X G z_int,
    n_isinstance := PySem.W.mg_none_of X G z_isinstance,
    n_len := PySem.W.mg_none_of X G z_len,
    n_list := PySem.W.mg_none_of X G z_list,
    n_min := PySem.W.mg_none_of X G z_min,
    n_range := PySem.W.mg_none_of X G z_range,
    n_reversed := PySem.W.mg_none_of X G z_reversed,
    n_str := PySem.W.mg_none_of X G z_str,
    n_sum := PySem.W.mg_none_of X G z_sum,
    n_tuple := PySem.W.mg_none_of X G z_tuple,
    C := C, Bits := eB, err := ef }
  exact ⟨_, fun s v => .of_eq rfl, fun base _ _ => o1_law T⟩
end K15
open PySem PySem.W PyProof.Rows
set_option maxHeartbeats 0 in
theorem PySem.Challenge.cw_bitsoftrees_k15_whole_ranks_of_rows_and_holds : PySem.Challenge.rw_bitsoftrees_k15_whole_ranks_of_rows_and.Holds := by
  w_on; o_law; k_head; (case hw => w_witness2)
  k_fill
  refine L2.walk_of (l := PySem.Challenge.rw_bitsoftrees_k15_whole_ranks_of_rows_and) (n := 63) (k := 112) (x := "script") (CX := fun w => L2N.CX (PySem.Challenge.rw_bitsoftrees_k15_whole_ranks_of_rows_and).prog w) (sp := fun w => AB.spD _ K15.ft_law) rfl (by decide) rfl ⟨rfl, by decide, by decide⟩ (fun w h Y => PySem.W.kIn_of Y) ?F (fun _ _ a ns hl hO hS => AB.law_in hO hS fun P hp => ⟨ns, rfl, hl, hp⟩) (fun _ _ _ _ _ h => AB.law_out h)
  case F =>
    intro w mg fa h KX G hmg
    refine' K15.all_mk KX G hmg ?a1 ?l1 ?c1 ?k1 ?a2 ?l2 ?c2 ?k2 ?a3 ?l3 ?c3 ?k3 ?a4 ?l4 ?c4 ?k4 ?a5 ?l5 ?c5 ?k5 ?a6 ?l6 ?c6 ?k6 ?a7 ?l7 ?c7 ?k7 ?a8 ?l8 ?c8 ?k8 ?a9 ?l9 ?c9 ?k9 ?a10 ?l10 ?c10 ?k10 ?a11 ?l11 ?c11 ?k11 ?a12 ?l12 ?c12 ?k12 ?a13 ?l13 ?c13 ?k13 ?a14 ?l14 ?c14 ?k14 ?a15 ?l15 ?c15 ?k15 ?a16 ?l16 ?c16 ?k16 ?a17 ?l17 ?c17 ?k17 ?a18 ?l18 ?c18 ?k18 ?a19 ?l19 ?c19 ?k19 ?a20 ?l20 ?c20 ?k20 ?m_MOST_LONG ?z_abs ?z_bool ?z_enumerate ?z_int ?z_isinstance ?z_len ?z_list ?z_min ?z_range ?z_reversed ?z_str ?z_sum ?z_tuple ?eaB ?esB ?edB ?etB ?ea0 ?ex0 ?ek0 ?et0 ?eg0 ?eh0 ?es0 ?ed0 ?el0 ?em0 ?eb0 ?ea1 ?ex1 ?ek1 ?et1 ?eg1 ?eh1 ?es1 ?ed1 ?el1 ?em1 ?eb1 ?ea2 ?ex2 ?ek2 ?et2 ?eg2 ?eh2 ?es2 ?ed2 ?el2 ?em2 ?eb2 ?ea3 ?ex3 ?ek3 ?et3 ?eg3 ?eh3 ?es3 ?ed3 ?el3 ?em3 ?eb3 ?ea4 ?ex4 ?ek4 ?et4 ?eg4 ?eh4 ?es4 ?ed4 ?el4 ?em4 ?eb4 ?u01 ?v01 ?u02 ?v02 ?u03 ?v03 ?u04 ?v04 ?u10 ?v10 ?u12 ?v12 ?u13 ?v13 ?u14 ?v14 ?u20 ?v20 ?u21 ?v21 ?u23 ?v23 ?u24 ?v24 ?u30 ?v30 ?u31 ?v31 ?u32 ?v32 ?u34 ?v34 ?u40 ?v40 ?u41 ?v41 ?u42 ?v42 ?u43 ?v43 ?hn ?ht
    (case a1 => k_is)
    (case l1 => k_is)
    (case c1 => k_is)
    (case k1 => k_is)
    (case a2 => k_is)
    (case l2 => k_is)
    (case c2 => k_is)
    (case k2 => k_is)
    (case a3 => k_is)
    (case l3 => k_is)
    (case c3 => k_is)
    (case k3 => k_is)
    (case a4 => k_is)
    (case l4 => k_is)
    (case c4 => k_is)
    (case k4 => k_is)
    (case a5 => k_is)
    (case l5 => k_is)
    (case c5 => k_is)
    (case k5 => k_is)
    (case a6 => k_is)
    (case l6 => k_is)
    (case c6 => k_is)
    (case k6 => k_is)
    (case a7 => k_is)
    (case l7 => k_is)
    (case c7 => k_is)
    (case k7 => k_is)
    (case a8 => k_is)
    (case l8 => k_is)
    (case c8 => k_is)
    (case k8 => k_is)
    (case a9 => k_is)
    (case l9 => k_is)
    (case c9 => k_is)
    (case k9 => k_is)
    (case a10 => k_is)
    (case l10 => k_is)
    (case c10 => k_is)
    (case k10 => k_is)
    (case a11 => k_is)
    (case l11 => k_is)
    (case c11 => k_is)
    (case k11 => k_is)
    (case a12 => k_is)
    (case l12 => k_is)
    (case c12 => k_is)
    (case k12 => k_is)
    (case a13 => k_is)
    (case l13 => k_is)
    (case c13 => k_is)
    (case k13 => k_is)
    (case a14 => k_is)
    (case l14 => k_is)
    (case c14 => k_is)
    (case k14 => k_is)
    (case a15 => k_is)
    (case l15 => k_is)
    (case c15 => k_is)
    (case k15 => k_is)
    (case a16 => k_is)
    (case l16 => k_is)
    (case c16 => k_is)
    (case k16 => k_is)
    (case a17 => k_is)
    (case l17 => k_is)
    (case c17 => k_is)
    (case k17 => k_is)
    (case a18 => k_is)
    (case l18 => k_is)
    (case c18 => k_is)
    (case k18 => k_is)
    (case a19 => k_is)
    (case l19 => k_is)
    (case c19 => k_is)
    (case k19 => k_is)
    (case a20 => k_is)
    (case l20 => k_is)
    (case c20 => k_is)
    (case k20 => k_is)
    (case m_MOST_LONG => k_is)
    (case z_abs => k_is)
    (case z_bool => k_is)
    (case z_enumerate => k_is)
    (case z_int => k_is)
    (case z_isinstance => k_is)
    (case z_len => k_is)
    (case z_list => k_is)
    (case z_min => k_is)
    (case z_range => k_is)
    (case z_reversed => k_is)
    (case z_str => k_is)
    (case z_sum => k_is)
    (case z_tuple => k_is)
    (case eaB => k_is)
    (case esB => k_is)
    (case edB => k_is)
    (case etB => k_is)
    (case ea0 => k_is)
    (case ex0 => k_exc)
    (case ek0 => k_is)
    (case et0 => k_is)
    (case eg0 => k_is)
    (case eh0 => k_is)
    (case es0 => k_is)
    (case ed0 => k_is)
    (case el0 => k_is)
    (case em0 => k_is)
    (case eb0 => k_is)
    (case ea1 => k_is)
    (case ex1 => k_exc)
    (case ek1 => k_is)
    (case et1 => k_is)
    (case eg1 => k_is)
    (case eh1 => k_is)
    (case es1 => k_is)
    (case ed1 => k_is)
    (case el1 => k_is)
    (case em1 => k_is)
    (case eb1 => k_is)
    (case ea2 => k_is)
    (case ex2 => k_exc)
    (case ek2 => k_is)
    (case et2 => k_is)
    (case eg2 => k_is)
    (case eh2 => k_is)
    (case es2 => k_is)
    (case ed2 => k_is)
    (case el2 => k_is)
    (case em2 => k_is)
    (case eb2 => k_is)
    (case ea3 => k_is)
    (case ex3 => k_exc)
    (case ek3 => k_is)
    (case et3 => k_is)
    (case eg3 => k_is)
    (case eh3 => k_is)
    (case es3 => k_is)
    (case ed3 => k_is)
    (case el3 => k_is)
    (case em3 => k_is)
    (case eb3 => k_is)
    (case ea4 => k_is)
    (case ex4 => k_exc)
    (case ek4 => k_is)
    (case et4 => k_is)
    (case eg4 => k_is)
    (case eh4 => k_is)
    (case es4 => k_is)
    (case ed4 => k_is)
    (case el4 => k_is)
    (case em4 => k_is)
    (case eb4 => k_is)
    (case u01 => k_is)
    (case v01 => first | k_is | decide +kernel)
    (case u02 => k_is)
    (case v02 => first | k_is | decide +kernel)
    (case u03 => k_is)
    (case v03 => first | k_is | decide +kernel)
    (case u04 => k_is)
    (case v04 => first | k_is | decide +kernel)
    (case u10 => k_is)
    (case v10 => first | k_is | decide +kernel)
    (case u12 => k_is)
    (case v12 => first | k_is | decide +kernel)
    (case u13 => k_is)
    (case v13 => first | k_is | decide +kernel)
    (case u14 => k_is)
    (case v14 => first | k_is | decide +kernel)
    (case u20 => k_is)
    (case v20 => first | k_is | decide +kernel)
    (case u21 => k_is)
    (case v21 => first | k_is | decide +kernel)
    (case u23 => k_is)
    (case v23 => first | k_is | decide +kernel)
    (case u24 => k_is)
    (case v24 => first | k_is | decide +kernel)
    (case u30 => k_is)
    (case v30 => first | k_is | decide +kernel)
    (case u31 => k_is)
    (case v31 => first | k_is | decide +kernel)
    (case u32 => k_is)
    (case v32 => first | k_is | decide +kernel)
    (case u34 => k_is)
    (case v34 => first | k_is | decide +kernel)
    (case u40 => k_is)
    (case v40 => first | k_is | decide +kernel)
    (case u41 => k_is)
    (case v41 => first | k_is | decide +kernel)
    (case u42 => k_is)
    (case v42 => first | k_is | decide +kernel)
    (case u43 => k_is)
    (case v43 => first | k_is | decide +kernel)
    (case hn => k_is)
    (case ht => k_is)
