import PyProof.Rows.All
import Wide.All
import OpenK.AllK
import Wide.FinOn
import HandS.ForMost
import HandS.ForExc
import HandS.TryMany
import HandS.IsInst
import HandS.Deep
import HandS.ExcIs
import HandS.Rev
import HandS.TupAny
import HandS.HotCalls
import PySem.Challenge.RW_seektree_k17_refused_ahead_of_all
import KE.RegKIsAll
import KE.RegKTryMore
set_option Elab.async false
set_option linter.all false
set_option maxRecDepth 100000
set_option maxHeartbeats 4000000
namespace Sk
open PySem PySem.Spec PyProof.Rows L2

/-! ### results -/
inductive Rs (α : Type) where
  | ok (a : α) | exc (x : String) | bad
def Rs.bind {α β : Type} : Rs α → (α → Rs β) → Rs β
  | .ok a, f => f a
  | .exc x, _ => .exc x
  | .bad, _ => .bad
theorem Rs.ok_bind {α β : Type} (a : α) (f : α → Rs β) : (Rs.ok a).bind f = f a := rfl
theorem Rs.exc_bind {α β : Type} (x : String) (f : α → Rs β) : (Rs.exc x : Rs α).bind f = .exc x := rfl
theorem Rs.bad_bind {α β : Type} (f : α → Rs β) : (Rs.bad : Rs α).bind f = .bad := rfl
abbrev D := PyData
abbrev Ev := List (Option D)

/-! ### what a value stands for -/
abbrev IP := List ((Int × Int) × Int)
def dkv (ps : IP) : List (List Key × V) := ps.map fun p => ([.inl p.1.1, .inl p.1.2], V.int p.2)
def ddt (ps : IP) : List (D × D) := ps.map fun p => (.tuple [.int p.1.1, .int p.1.2], .int p.2)
/-- an exception object of the class cls at a -/
def ExE (cls : Value) (a : Addr) : HO := .ext fun h => ∃ (oe : Obj) (vs : Array Value), h.get? a = some oe ∧ Zc cls none oe ∧ oe.data = .fields vs
/-- an exception of the class named z, as data -/
def dE (z : Str) : D := .dict [(.none, .str z)]
def ExR (K : PySem.W.Frag) (H : Hp) (kvs : List (D × D)) (v : V) : Prop := ∃ a z C, v = .ref a ∧ kvs = [(.none, .str z)] ∧ PySem.W.nsIn K mainGlobals z = some (some (.ref C)) ∧ H a = some (ExE (.ref C) a)
mutual
def Rp (K : PySem.W.Frag) (H : Hp) : D → V → Prop
  | .none, v => v = .non
  | .bool b, v => v = .bl b
  | .int i, v => v = .int i
  | .str s, v => v = .str s
  | .list ds, v => ∃ a vs, v = .ref a ∧ SqL K H a vs ∧ RpL K H ds vs
  | .tuple ds, v => ∃ a vs, v = .ref a ∧ SqT K H a vs ∧ RpL K H ds vs
  | .dict kvs, v => (∃ a ps, v = .ref a ∧ H a = some (.dT (dkv ps)) ∧ kvs = ddt ps) ∨ ExR K H kvs v
def RpL (K : PySem.W.Frag) (H : Hp) : List D → List V → Prop
  | [], vs => vs = []
  | d :: ds, vs => ∃ v r, vs = v :: r ∧ Rp K H d v ∧ RpL K H ds r
end
section
variable {K : PySem.W.Frag} {H H' : Hp}
theorem sqt_same {a : Addr} {xs : List V} (e : Same H H') (h : SqT K H a xs) : SqT K H' a xs := by
  rcases h with (h | ⟨o, h⟩) | h
  · exact .inl (.inl (e _ _ h))
  · exact .inl (.inr ⟨o, e _ _ h⟩)
  · exact .inr h
mutual
theorem Rp.mono (e : Same H H') : ∀ {d : D} {v : V}, Rp K H d v → Rp K H' d v
  | .none, v, h => h
  | .bool b, v, h => h
  | .int i, v, h => h
  | .str s, v, h => h
  | .list ds, v, h => by
    obtain ⟨a, vs, r, s, l⟩ := h
    exact ⟨a, vs, r, e.seq s, RpL.mono e l⟩
  | .tuple ds, v, h => by
    obtain ⟨a, vs, r, s, l⟩ := h
    exact ⟨a, vs, r, sqt_same e s, RpL.mono e l⟩
  | .dict kvs, v, h => by
    rcases h with ⟨a, ps, r, s, l⟩ | ⟨a, z, C, r, l, n, s⟩
    · exact .inl ⟨a, ps, r, e _ _ s, l⟩
    · exact .inr ⟨a, z, C, r, l, n, e _ _ s⟩
theorem RpL.mono (e : Same H H') : ∀ {ds : List D} {vs : List V}, RpL K H ds vs → RpL K H' ds vs
  | [], vs, h => h
  | d :: ds, vs, h => by
    obtain ⟨v, r, ev, h1, h2⟩ := h
    exact ⟨v, r, ev, Rp.mono e h1, RpL.mono e h2⟩
end
theorem RpL.nil : RpL K H [] [] := rfl
theorem RpL.cons {d : D} {ds : List D} {v : V} {vs : List V} (h : Rp K H d v) (t : RpL K H ds vs) : RpL K H (d :: ds) (v :: vs) := ⟨v, vs, rfl, h, t⟩
theorem RpL.length : ∀ {ds : List D} {vs : List V}, RpL K H ds vs → vs.length = ds.length
  | [], vs, h => by cases h; rfl
  | d :: ds, vs, h => by
    obtain ⟨v, r, rfl, _, t⟩ := h
    simp only [List.length_cons, RpL.length t]
theorem RpL.get : ∀ {ds : List D} {vs : List V} {i : Nat} {d : D}, RpL K H ds vs → ds[i]? = some d → ∃ v, vs[i]? = some v ∧ Rp K H d v
  | [], vs, i, d, h, e => by simp at e
  | x :: ds, vs, 0, d, h, e => by
    obtain ⟨v, r, rfl, h1, t⟩ := h
    simp only [List.getElem?_cons_zero, Option.some.injEq] at e
    subst e
    exact ⟨v, rfl, h1⟩
  | x :: ds, vs, i + 1, d, h, e => by
    obtain ⟨v, r, rfl, h1, t⟩ := h
    exact RpL.get (i := i) t e
theorem RpL.get' : ∀ {ds : List D} {vs : List V} {i : Nat} {v : V}, RpL K H ds vs → vs[i]? = some v → ∃ d, ds[i]? = some d ∧ Rp K H d v
  | [], vs, i, v, h, e => by cases h; simp at e
  | x :: ds, vs, 0, v, h, e => by
    obtain ⟨v', r, rfl, h1, t⟩ := h
    simp only [List.getElem?_cons_zero, Option.some.injEq] at e
    subst e
    exact ⟨x, rfl, h1⟩
  | x :: ds, vs, i + 1, v, h, e => by
    obtain ⟨v', r, rfl, h1, t⟩ := h
    exact RpL.get' (i := i) t e
theorem RpL.append : ∀ {ds es : List D} {vs ws : List V}, RpL K H ds vs → RpL K H es ws → RpL K H (ds ++ es) (vs ++ ws)
  | [], es, vs, ws, h, t => by cases h; exact t
  | d :: ds, es, vs, ws, h, t => by
    obtain ⟨v, r, rfl, h1, h2⟩ := h
    exact ⟨v, r ++ ws, rfl, h1, RpL.append h2 t⟩
theorem RpL.take : ∀ {ds : List D} {vs : List V} (n : Nat), RpL K H ds vs → RpL K H (ds.take n) (vs.take n)
  | _, _, 0, _ => rfl
  | [], vs, n + 1, h => by cases h; rfl
  | d :: ds, vs, n + 1, h => by
    obtain ⟨v, r, rfl, h1, h2⟩ := h
    exact ⟨v, r.take n, rfl, h1, RpL.take n h2⟩
theorem RpL.drop : ∀ {ds : List D} {vs : List V} (n : Nat), RpL K H ds vs → RpL K H (ds.drop n) (vs.drop n)
  | _, _, 0, h => h
  | [], vs, n + 1, h => by cases h; rfl
  | d :: ds, vs, n + 1, h => by
    obtain ⟨v, r, rfl, h1, h2⟩ := h
    exact RpL.drop n h2
theorem RpL.set : ∀ {ds : List D} {vs : List V} (n : Nat) {d : D} {v : V}, RpL K H ds vs → Rp K H d v → RpL K H (ds.set n d) (vs.set n v)
  | [], vs, n, d, v, h, _ => by cases h; rfl
  | x :: ds, vs, 0, d, v, h, hd => by
    obtain ⟨v', r, rfl, h1, h2⟩ := h
    exact ⟨v, r, rfl, hd, h2⟩
  | x :: ds, vs, n + 1, d, v, h, hd => by
    obtain ⟨v', r, rfl, h1, h2⟩ := h
    exact ⟨v', r.set n v, rfl, h1, RpL.set n h2 hd⟩
theorem RpL.reverse : ∀ {ds : List D} {vs : List V}, RpL K H ds vs → RpL K H ds.reverse vs.reverse
  | [], vs, h => by cases h; rfl
  | d :: ds, vs, h => by
    obtain ⟨v, r, rfl, h1, h2⟩ := h
    rw [List.reverse_cons, List.reverse_cons]
    exact RpL.append (RpL.reverse h2) (.cons h1 .nil)
theorem RpL.dropLast {ds : List D} {vs : List V} (h : RpL K H ds vs) : RpL K H ds.dropLast vs.dropLast := by
  rw [List.dropLast_eq_take, List.dropLast_eq_take, h.length]
  exact h.take _
theorem RpL.ints : ∀ {ns : List Int} {vs : List V}, RpL K H (ns.map PyData.int) vs → vs = ns.map V.int
  | [], vs, h => h
  | n :: ns, vs, h => by
    obtain ⟨v, r, rfl, h1, h2⟩ := h
    rw [RpL.ints h2, (show v = V.int n from h1)]; rfl
theorem RpL.of_ints : ∀ (ns : List Int), RpL K H (ns.map PyData.int) (ns.map V.int)
  | [] => rfl
  | n :: ns => ⟨_, _, rfl, rfl, RpL.of_ints ns⟩
theorem RpL.bls : ∀ {ns : List Bool} {vs : List V}, RpL K H (ns.map PyData.bool) vs → vs = ns.map V.bl
  | [], vs, h => h
  | n :: ns, vs, h => by
    obtain ⟨v, r, rfl, h1, h2⟩ := h
    rw [RpL.bls h2, (show v = V.bl n from h1)]; rfl
theorem RpL.strs : ∀ {ns : List Str} {vs : List V}, RpL K H (ns.map PyData.str) vs → vs = ns.map V.str
  | [], vs, h => h
  | n :: ns, vs, h => by
    obtain ⟨v, r, rfl, h1, h2⟩ := h
    rw [RpL.strs h2, (show v = V.str n from h1)]; rfl
end

/-! ### without dicts: the library's own relation -/
mutual
def noDict : D → Bool
  | .dict _ => false
  | .list ds => noDictL ds
  | .tuple ds => noDictL ds
  | .none => true
  | .bool _ => true
  | .int _ => true
  | .str _ => true
def noDictL : List D → Bool
  | [] => true
  | d :: ds => noDict d && noDictL ds
end
section
variable {K : PySem.W.Frag} {H : Hp}
mutual
theorem dp_of : ∀ {d : D} {v : V}, d.canLay0 = true → Rp K H d v → Dp K H v d
  | .none, v, _, h => by cases h; exact .non
  | .bool b, v, _, h => by cases h; exact .bl b
  | .int i, v, _, h => by cases h; exact .int i
  | .str s, v, _, h => by cases h; exact .str s
  | .list ds, v, q, h => by
    obtain ⟨a, vs, rfl, s, l⟩ := h
    exact .lst s (dpL_of (by simpa [PyData.canLay0] using q) l)
  | .tuple ds, v, q, h => by
    obtain ⟨a, vs, rfl, s, l⟩ := h
    exact .tup s (dpL_of (by simpa [PyData.canLay0] using q) l)
  | .dict kvs, v, q, h => by simp [PyData.canLay0] at q
theorem dpL_of : ∀ {ds : List D} {vs : List V}, PyData.canLayAll0 ds = true → RpL K H ds vs → DpAll K H vs ds
  | [], vs, _, h => by cases h; exact .nil
  | d :: ds, vs, q, h => by
    obtain ⟨v, r, rfl, h1, h2⟩ := h
    have q' : d.canLay0 = true ∧ PyData.canLayAll0 ds = true := by simpa [PyData.canLayAll0] using q
    exact .cons (dp_of q'.1 h1) (dpL_of q'.2 h2)
end
end

/-! ### two heaps: the base part H0 of H, and how they grow -/
structure Ex2 (H0 H H0' H' : Hp) : Prop where
  a : Same H0 H0'
  b : Same H H'
  c : Same H0' H'
  d : ∀ p o, H p = some o → H0' p = H0 p
theorem Ex2.refl {H0 H : Hp} (s : Same H0 H) : Ex2 H0 H H0 H := ⟨Same.refl _, Same.refl _, s, fun _ _ _ => rfl⟩
theorem Ex2.trans {H0 H H1 H' H2 H'' : Hp} (x : Ex2 H0 H H1 H') (y : Ex2 H1 H' H2 H'') : Ex2 H0 H H2 H'' :=
  ⟨x.a.trans y.a, x.b.trans y.b, y.c, fun p o e => (y.d p o (x.b p o e)).trans (x.d p o e)⟩
theorem same_new {H : Hp} {p : Addr} (h : H p = none) (o : HO) : Same H (upd H p o) := fun b u q => by rw [upd_ne (ne_of_none q h)]; exact q
theorem same_upd {H0 H : Hp} {p : Addr} (s : Same H0 H) (h : H0 p = none) (o : HO) : Same H0 (upd H p o) := fun b u q => by rw [upd_ne (ne_of_none q h)]; exact s _ _ q
theorem same_both {H0 H : Hp} {p : Addr} (s : Same H0 H) (o : HO) : Same (upd H0 p o) (upd H p o) := fun b u q => by
  unfold upd at q ⊢
  split at q
  · rename_i e; rw [if_pos e]; exact q
  · rename_i e; rw [if_neg e]; exact s _ _ q
/-- a new object, in the base -/
theorem Ex2.new {H0 H : Hp} {p : Addr} (s : Same H0 H) (h : H p = none) (o : HO) : Ex2 H0 H (upd H0 p o) (upd H p o) :=
  ⟨same_new (s.free h) o, same_new h o, same_both s o, fun q u e => upd_ne (ne_of_none e h)⟩
/-- a new object, not in the base -/
theorem Ex2.out {H0 H : Hp} {p : Addr} (s : Same H0 H) (h : H p = none) (o : HO) : Ex2 H0 H H0 (upd H p o) :=
  ⟨Same.refl _, same_new h o, s.trans (same_new h o), fun _ _ _ => rfl⟩
/-- an object that lies outside of the base, added to it -/
theorem Ex2.add {H0 H H0' H' : Hp} (x : Ex2 H0 H H0' H') {p : Addr} {o : HO} (n : H p = none) (n0 : H0' p = none) (h : H' p = some o) : Ex2 H0 H (upd H0' p o) H' :=
  ⟨x.a.trans (same_new n0 o), x.b, fun b u q => by
    unfold upd at q
    split at q
    · rename_i e; cases q; rw [e]; exact h
    · exact x.c _ _ q, fun q u e => by rw [upd_ne (ne_of_none e n)]; exact x.d q u e⟩

/-! ### expressions -/
def RpV (K : PySem.W.Frag) (H : Hp) (σ : L2.St) (ev : Ev) : Prop := ev.length = σ.length ∧ ∀ (i : Nat) (d : D), ev[i]? = some (some d) → ∃ v, σ[i]? = some (some v) ∧ Rp K H d v
theorem RpV.mono {K : PySem.W.Frag} {H H' : Hp} {σ : L2.St} {ev : Ev} (e : Same H H') (h : RpV K H σ ev) : RpV K H' σ ev :=
  ⟨h.1, fun i d q => let ⟨v, a, b⟩ := h.2 i d q; ⟨v, a, b.mono e⟩⟩
/-- what is wanted of an exception by its class's name -/
def EX (mg : Str → Option Value) (E : XK) (x : String) (H : Hp) : Prop := ∀ C, mg (Str.ofString x) = some (.ref C) → E (.ref C) none H
structure Wh where
  K : PySem.W.Frag
  mg : Str → Option Value
  E : XK
def PostE (Z : Wh) (H0 H : Hp) (r : Rs D) (Q : VK) : Prop := match r with
  | .ok d => ∀ v H0' H', Ex2 H0 H H0' H' → Rp Z.K H0' d v → Q v H'
  | .exc x => ∀ H', Same H H' → EX Z.mg Z.E x H'
  | .bad => False
def PostB (Z : Wh) (H : Hp) (r : Rs Bool) (Q : Bool → Hp → Prop) : Prop := match r with
  | .ok b => ∀ H', Same H H' → Q b H'
  | .exc x => ∀ H', Same H H' → EX Z.mg Z.E x H'
  | .bad => False
def PostA (Z : Wh) (H0 H : Hp) (r : Rs (List D)) (Q : List V → Hp → Prop) : Prop := match r with
  | .ok ds => ∀ vs H0' H', Ex2 H0 H H0' H' → RpL Z.K H0' ds vs → Q vs H'
  | .exc x => ∀ H', Same H H' → EX Z.mg Z.E x H'
  | .bad => False
/-- a new list or dict at p, outside of the base -/
def OwA (K : PySem.W.Frag) (H0 H : Hp) (d : D) (p : Addr) : Prop :=
  (∃ ds vs, d = .list ds ∧ H p = some (.lst vs) ∧ RpL K H0 ds vs) ∨ ∃ ps, d = .dict (ddt ps) ∧ H p = some (.dT (dkv ps))
def PostO (Z : Wh) (H0 H : Hp) (r : Rs D) (Q : VK) : Prop := match r with
  | .ok d => ∀ p H0' H', Ex2 H0 H H0' H' → H p = none → H0' p = none → OwA Z.K H0' H' d p → Q (.ref p) H'
  | .exc x => ∀ H', Same H H' → EX Z.mg Z.E x H'
  | .bad => False
def tE (Z : Wh) (fe : Ev → Rs D) : TE := fun σ H Q => ∃ H0 ev, Same H0 H ∧ RpV Z.K H0 σ ev ∧ PostE Z H0 H (fe ev) Q
def tO (Z : Wh) (fe : Ev → Rs D) : TE := fun σ H Q => ∃ H0 ev, Same H0 H ∧ RpV Z.K H0 σ ev ∧ PostO Z H0 H (fe ev) Q
def tB (Z : Wh) (fe : Ev → Rs Bool) : TT := fun σ H Q => ∃ H0 ev, Same H0 H ∧ RpV Z.K H0 σ ev ∧ PostB Z H (fe ev) Q
def tA (Z : Wh) (fe : Ev → Rs (List D)) : TA := fun σ H Q => ∃ H0 ev, Same H0 H ∧ RpV Z.K H0 σ ev ∧ PostA Z H0 H (fe ev) Q
section
variable {Z : Wh} {H0 H H0' H' : Hp}
theorem PostE.step {r : Rs D} {Q : VK} (x : Ex2 H0 H H0' H') (h : PostE Z H0 H r Q) : PostE Z H0' H' r Q := by
  cases r with
  | ok d => exact fun v A B y q => h v A B (x.trans y) q
  | exc e => exact fun B y => h B (x.b.trans y)
  | bad => exact h
theorem PostO.step {r : Rs D} {Q : VK} (x : Ex2 H0 H H0' H') (h : PostO Z H0 H r Q) : PostO Z H0' H' r Q := by
  cases r with
  | ok d => exact fun p A B y n n0 q => h p A B (x.trans y) (x.b.free n) n0 q
  | exc e => exact fun B y => h B (x.b.trans y)
  | bad => exact h
theorem PostB.step {r : Rs Bool} {Q : Bool → Hp → Prop} (x : Same H H') (h : PostB Z H r Q) : PostB Z H' r Q := by
  cases r with
  | ok d => exact fun B y => h B (x.trans y)
  | exc e => exact fun B y => h B (x.trans y)
  | bad => exact h
theorem PostA.step {r : Rs (List D)} {Q : List V → Hp → Prop} (x : Ex2 H0 H H0' H') (h : PostA Z H0 H r Q) : PostA Z H0' H' r Q := by
  cases r with
  | ok d => exact fun v A B y q => h v A B (x.trans y) q
  | exc e => exact fun B y => h B (x.b.trans y)
  | bad => exact h
/-- the value is there already -/
theorem PostE.now {d : D} {Q : VK} {v : V} (s : Same H0 H) (h : PostE Z H0 H (.ok d) Q) (r : Rp Z.K H0 d v) : Q v H := h v H0 H (Ex2.refl s) r
theorem OwA.rp {K : PySem.W.Frag} {d : D} {p : Addr} (s : Same H0 H) (h : OwA K H0 H d p) (hH : ∃ o, H0' p = some o ∧ H p = some o) (s0 : Same H0 H0') : Rp K H0' d (.ref p) := by
  obtain ⟨o, e1, e2⟩ := hH
  rcases h with ⟨ds, vs, rfl, e, r⟩ | ⟨ps, rfl, e⟩
  · rw [e] at e2; cases e2
    exact ⟨p, vs, rfl, SqL.of e1, r.mono s0⟩
  · rw [e] at e2; cases e2
    exact .inl ⟨p, ps, rfl, e1, rfl⟩
theorem OwA.some {K : PySem.W.Frag} {d : D} {p : Addr} (h : OwA K H0 H d p) : ∃ o, H p = some o := by
  rcases h with ⟨ds, vs, rfl, e, r⟩ | ⟨ps, rfl, e⟩
  · exact ⟨_, e⟩
  · exact ⟨_, e⟩
/-- a new one is an expression's value like another -/
theorem PostE.toO {r : Rs D} {Q : VK} (h : PostE Z H0 H r Q) : PostO Z H0 H r Q := by
  cases r with
  | ok d =>
    intro p A B y n n0 q
    obtain ⟨o, e⟩ := q.some
    refine h (.ref p) (upd A p o) B (y.add n n0 e) ?_
    exact q.rp y.c ⟨o, upd_same, e⟩ (same_new n0 o)
  | exc e => exact h
  | bad => exact h
end
theorem PE.weak {X : Cx} {e : Expr} {t t' : TE} (h : PE X e t) (w : ∀ σ H Q, t' σ H Q → t σ H Q) : PE X e t' := ⟨fun pins s σ H Q I q => h.run pins s σ H Q I (w σ H Q q)⟩
theorem PT.weak {X : Cx} {e : Expr} {t t' : TT} (h : PT X e t) (w : ∀ σ H Q, t' σ H Q → t σ H Q) : PT X e t' := ⟨fun pins s σ H Q I q => h.run pins s σ H Q I (w σ H Q q)⟩
theorem PW.weak {X : Cx} {e : Expr} {t t' : TT} (h : PW X e t) (w : ∀ σ H Q, t' σ H Q → t σ H Q) : PW X e t' := ⟨fun wh pins s σ H Q I q => h.run wh pins s σ H Q I (w σ H Q q)⟩
theorem PA.weak {X : Cx} {e : List Expr} {t t' : TA} (h : PA X e t) (w : ∀ σ H Q, t' σ H Q → t σ H Q) : PA X e t' := ⟨fun pos pins s σ H Q I q => h.run pos pins s σ H Q I (w σ H Q q)⟩
theorem PS.weak {X : Cx} {e : Stmt} {t t' : TS} (h : PS X e t) (w : ∀ D σ H, t' D σ H → t D σ H) : PS X e t' := ⟨fun pins s σ H D I q => h.run pins s σ H D I (w D σ H q)⟩
theorem PSs.weak {X : Cx} {e : List Stmt} {t t' : TS} (h : PSs X e t) (w : ∀ D σ H, t' D σ H → t D σ H) : PSs X e t' := ⟨fun pins s σ H D I q => h.run pins s σ H D I (w D σ H q)⟩
abbrev zOf (X : Cx) (E : XK) : Wh := ⟨X.K, X.mg, E⟩
abbrev SE (X : Cx) (E : XK) (e : Expr) (fe : Ev → Rs D) : Prop := PE X e (tE (zOf X E) fe)
abbrev SO (X : Cx) (E : XK) (e : Expr) (fe : Ev → Rs D) : Prop := PE X e (tO (zOf X E) fe)
abbrev SB (X : Cx) (E : XK) (e : Expr) (fe : Ev → Rs Bool) : Prop := PT X e (tB (zOf X E) fe)
abbrev SW (X : Cx) (E : XK) (e : Expr) (fe : Ev → Rs Bool) : Prop := PW X e (tB (zOf X E) fe)
abbrev SA (X : Cx) (E : XK) (es : List Expr) (fe : Ev → Rs (List D)) : Prop := PA X es (tA (zOf X E) fe)
theorem SO.e {X : Cx} {E : XK} {e : Expr} {fe : Ev → Rs D} (h : SO X E e fe) : SE X E e fe := PE.weak h fun σ H Q ⟨H0, ev, s, r, p⟩ => ⟨H0, ev, s, r, p.toO⟩

/-! ### the pure combinators of expressions -/
def eV (i : Nat) : Ev → Rs D := fun ev => match ev[i]? with | some (some d) => .ok d | _ => .bad
def eC (d : D) : Ev → Rs D := fun _ => .ok d
def e2 (op : D → D → Rs D) (fa fb : Ev → Rs D) : Ev → Rs D := fun ev => (fa ev).bind fun a => (fb ev).bind fun b => op a b
def e1 (op : D → Rs D) (fa : Ev → Rs D) : Ev → Rs D := fun ev => (fa ev).bind op
def aN : Ev → Rs (List D) := fun _ => .ok []
def aC (fa : Ev → Rs D) (fr : Ev → Rs (List D)) : Ev → Rs (List D) := fun ev => (fa ev).bind fun a => (fr ev).bind fun r => .ok (a :: r)
def eA (op : List D → Rs D) (fa : Ev → Rs (List D)) : Ev → Rs D := fun ev => (fa ev).bind op
def asB : D → Rs Bool
  | .bool b => .ok b
  | _ => .bad
def bE (fe : Ev → Rs D) : Ev → Rs Bool := fun ev => (fe ev).bind asB
def bAnd (fa fb : Ev → Rs Bool) : Ev → Rs Bool := fun ev => (fa ev).bind fun a => if a = true then fb ev else .ok false
def bOr (fa fb : Ev → Rs Bool) : Ev → Rs Bool := fun ev => (fa ev).bind fun a => if a = true then .ok true else fb ev
def bNot (fa : Ev → Rs Bool) : Ev → Rs Bool := fun ev => (fa ev).bind fun a => .ok (!a)
def eAnd (fa fb : Ev → Rs D) : Ev → Rs D := fun ev => (fa ev).bind fun a => (asB a).bind fun a => if a = true then fb ev else .ok (.bool false)
def eOr (fa fb : Ev → Rs D) : Ev → Rs D := fun ev => (fa ev).bind fun a => (asB a).bind fun a => if a = true then .ok (.bool true) else fb ev
def eNot (fa : Ev → Rs D) : Ev → Rs D := fun ev => (fa ev).bind fun a => (asB a).bind fun a => .ok (.bool (!a))

/-- an operation on values -/
def OpS (Z : Wh) (r : R2) (op : D → D → Rs D) : Prop := ∀ (H0 H : Hp) (x y : V) (a b : D) (Q : VK), Same H0 H → Rp Z.K H0 a x → Rp Z.K H0 b y → PostE Z H0 H (op a b) Q → r x y H Q
def OpO (Z : Wh) (r : R2) (op : D → D → Rs D) : Prop := ∀ (H0 H : Hp) (x y : V) (a b : D) (Q : VK), Same H0 H → Rp Z.K H0 a x → Rp Z.K H0 b y → PostO Z H0 H (op a b) Q → r x y H Q
def CaS (Z : Wh) (r : List V → Hp → VK → Prop) (op : List D → Rs D) : Prop := ∀ (H0 H : Hp) (xs : List V) (as : List D) (Q : VK), Same H0 H → RpL Z.K H0 as xs → PostE Z H0 H (op as) Q → r xs H Q
def CaO (Z : Wh) (r : List V → Hp → VK → Prop) (op : List D → Rs D) : Prop := ∀ (H0 H : Hp) (xs : List V) (as : List D) (Q : VK), Same H0 H → RpL Z.K H0 as xs → PostO Z H0 H (op as) Q → r xs H Q
section
variable {X : Cx} {E : XK} {a b e : Expr} {es rest : List Expr} {fa fb fe : Ev → Rs D} {fr : Ev → Rs (List D)} {ga gb : Ev → Rs Bool} {pos : Pos}
/-- two parts, then something -/
theorem two {σ : L2.St} {H : Hp} {Z : Wh} {α : Type} {op : D → D → Rs α} {R : V → V → Hp → Prop} {P : Hp → Hp → Rs α → Prop} (h : ∃ H0 ev, Same H0 H ∧ RpV Z.K H0 σ ev ∧ P H0 H ((fa ev).bind fun a => (fb ev).bind fun b => op a b))
    (step : ∀ H0 H H0' H' r, Ex2 H0 H H0' H' → P H0 H r → P H0' H' r) (hexc : ∀ H0 H x, P H0 H (.exc x) → ∀ H', Same H H' → EX Z.mg Z.E x H') (hbad : ∀ H0 H, ¬ P H0 H .bad)
    (fin : ∀ H0 H x y a b, Same H0 H → Rp Z.K H0 a x → Rp Z.K H0 b y → P H0 H (op a b) → R x y H) : tE Z fa σ H fun x H1 => tE Z fb σ H1 fun y H2 => R x y H2 := by
  obtain ⟨H0, ev, s, rv, p⟩ := h
  refine ⟨H0, ev, s, rv, ?_⟩
  cases ea : fa ev with
  | bad => rw [ea] at p; exact (hbad _ _ p).elim
  | exc x => rw [ea] at p; exact hexc _ _ _ p
  | ok a =>
    rw [ea] at p
    intro v H1 H' x1 r1
    refine ⟨H1, ev, x1.c, rv.mono x1.a, ?_⟩
    have p' := step _ _ _ _ _ x1 p
    simp only [Rs.ok_bind] at p'
    cases eb : fb ev with
    | bad => rw [eb] at p'; exact (hbad _ _ p').elim
    | exc x => rw [eb] at p'; exact hexc _ _ _ p'
    | ok b =>
      rw [eb] at p'
      intro u H2 H'' x2 r2
      exact fin H2 H'' v u a b x2.c (r1.mono x2.a) r2 (step _ _ _ _ _ x2 p')
theorem PostE.two' {op : D → D → Rs D} {Z : Wh} {r : R2} (ho : OpS Z r op) {σ : L2.St} {H : Hp} {Q : VK} (h : tE Z (e2 op fa fb) σ H Q) : tOp r (tE Z fa) (tE Z fb) σ H Q :=
  two (P := fun H0 H r => PostE Z H0 H r Q) h (fun _ _ _ _ _ x p => p.step x) (fun _ _ _ p => p) (fun _ _ p => p) fun H0 H x y a b s r1 r2 p => ho H0 H x y a b Q s r1 r2 p
theorem PostO.two' {op : D → D → Rs D} {Z : Wh} {r : R2} (ho : OpO Z r op) {σ : L2.St} {H : Hp} {Q : VK} (h : tO Z (e2 op fa fb) σ H Q) : tOp r (tE Z fa) (tE Z fb) σ H Q :=
  two (P := fun H0 H r => PostO Z H0 H r Q) h (fun _ _ _ _ _ x p => p.step x) (fun _ _ _ p => p) (fun _ _ p => p) fun H0 H x y a b s r1 r2 p => ho H0 H x y a b Q s r1 r2 p
theorem se_op {o : Operator} {r : R2} {op : D → D → Rs D} (h : OpR X (binaryOp o) r) (ho : OpS (zOf X E) r op) (ha : SE X E a fa) (hb : SE X E b fb) : SE X E (.BinOp a o b pos) (e2 op fa fb) :=
  PE.weak (pe_op h ha hb) fun _ _ _ q => PostE.two' ho q
theorem so_op {o : Operator} {r : R2} {op : D → D → Rs D} (h : OpR X (binaryOp o) r) (ho : OpO (zOf X E) r op) (ha : SE X E a fa) (hb : SE X E b fb) : SO X E (.BinOp a o b pos) (e2 op fa fb) :=
  PE.weak (pe_op h ha hb) fun _ _ _ q => PostO.two' ho q
theorem se_cmp {o : CmpOp} {r : R2} {op : D → D → Rs D} (h : OpR X (compareOp o) r) (ho : OpS (zOf X E) r op) (ha : SE X E a fa) (hb : SE X E b fb) (hm : behindInMarks o b = false) : SE X E (.Compare a [o] [b] pos) (e2 op fa fb) :=
  PE.weak (pe_cmpR h ha hb hm) fun _ _ _ q => PostE.two' ho q
theorem se_ix {r : R2} {op : D → D → Rs D} (h : IxR X r) (ho : OpS (zOf X E) r op) (ha : SE X E a fa) (hb : SE X E b fb) (hs : PlainIx b) : SE X E (.Subscript a b pos) (e2 op fa fb) :=
  PE.weak (pe_ix h ha hb hs) fun _ _ _ q => PostE.two' ho q
theorem tB_of {Z : Wh} {σ : L2.St} {H : Hp} {Q : Bool → Hp → Prop} (h : tB Z (bE fe) σ H Q) : tE Z fe σ H fun x H' => ∃ k, x = .bl k ∧ Q k H' := by
  obtain ⟨H0, ev, s, rv, p⟩ := h
  refine ⟨H0, ev, s, rv, ?_⟩
  unfold bE at p
  cases ea : fe ev with
  | bad => rw [ea] at p; exact p
  | exc x => rw [ea] at p; exact p
  | ok d =>
    rw [ea] at p
    intro v H1 H' x1 r1
    cases d with
    | bool k => exact ⟨k, r1, p H' x1.b⟩
    | none => exact p.elim
    | int _ => exact p.elim
    | str _ => exact p.elim
    | list _ => exact p.elim
    | tuple _ => exact p.elim
    | dict _ => exact p.elim
theorem sb_cmp {o : CmpOp} {r : R2} {op : D → D → Rs D} (h : OpR X (compareOp o) r) (ho : OpS (zOf X E) r op) (ha : SE X E a fa) (hb : SE X E b fb) (hm : behindInMarks o b = false) : SB X E (.Compare a [o] [b] pos) (bE (e2 op fa fb)) :=
  PT.weak (pt_cmpR h ha hb hm) fun σ H Q q => PostE.two' ho (tB_of q)
theorem sb_val (h : SE X E e fe) (he : ∀ whole, isTrue e X.env whole = (do let v ← whole; standAt e.pos; holding [v] (truthy v)) := by intro _; rfl) : SB X E e (bE fe) :=
  PT.weak (pt_val h he) fun σ H Q q => tB_of q
theorem se_v (i : Nat) {x : Str} (hN : X.N[i]? = some x := by rfl) (hv : Vis X.env.scope x := by first | exact Or.inl rfl | exact Or.inr (Or.inl rfl) | exact Or.inr (Or.inr rfl)) (hd : (x == ("__debug__" : Str)) = false := by decide)
    (hcd : (x == ("__classdict__" : Str)) = false := by decide) : SE X E (.Name x pos) (eV i) := by
  refine PE.weak (pe_var hN hv hd hcd) fun σ H Q q => ?_
  obtain ⟨H0, ev, s, rv, p⟩ := q
  unfold eV at p
  cases ea : ev[i]? with
  | none => rw [ea] at p; exact p.elim
  | some o =>
    cases o with
    | none => rw [ea] at p; exact p.elim
    | some d =>
      rw [ea] at p
      obtain ⟨v, e1, r⟩ := rv.2 i d ea
      exact ⟨v, e1, p.now s r⟩
theorem PostE.c {Z : Wh} {σ : L2.St} {H : Hp} {Q : VK} {d : D} {v : V} (r : ∀ H0, Rp Z.K H0 d v) (h : tE Z (eC d) σ H Q) : tC v σ H Q := by
  obtain ⟨H0, ev, s, rv, p⟩ := h
  exact p.now s (r H0)
theorem se_int {i : Int} {j} : SE X E (.Constant (.int i) j pos) (eC (.int i)) := PE.weak pe_int fun _ _ _ q => PostE.c (d := .int i) (v := .int i) (fun _ => rfl) q
theorem se_str {i : Str} {j} : SE X E (.Constant (.str i) j pos) (eC (.str i)) := PE.weak pe_str fun _ _ _ q => PostE.c (d := .str i) (v := .str i) (fun _ => rfl) q
theorem se_bl {i : Bool} {j} : SE X E (.Constant (.bool i) j pos) (eC (.bool i)) := PE.weak pe_bl fun _ _ _ q => PostE.c (d := .bool i) (v := .bl i) (fun _ => rfl) q
theorem se_non {j} : SE X E (.Constant .none j pos) (eC .none) := PE.weak pe_non fun _ _ _ q => PostE.c (d := .none) (v := .non) (fun _ => rfl) q
theorem se_globS {x : Str} {z : Str} {t : Tok} (hg : Gl X x) (hm : X.mg x = some (.str z t)) (hd : (x == ("__debug__" : Str)) = false := by decide) : SE X E (.Name x pos) (eC (.str z)) :=
  PE.weak (pe_glob (v := .str z) hg hm ⟨_, rfl⟩ hd) fun _ _ _ q => PostE.c (d := .str z) (v := .str z) (fun _ => rfl) q
theorem se_globI {x : Str} {z : Int} {t : Tok} (hg : Gl X x) (hm : X.mg x = some (.int z t)) (hd : (x == ("__debug__" : Str)) = false := by decide) : SE X E (.Name x pos) (eC (.int z)) :=
  PE.weak (pe_glob (v := .int z) hg hm ⟨_, rfl⟩ hd) fun _ _ _ q => PostE.c (d := .int z) (v := .int z) (fun _ => rfl) q
theorem sa_nil : SA X E [] aN := PA.weak pa_nil fun σ H Q ⟨H0, ev, s, rv, p⟩ => p [] H0 H (Ex2.refl s) .nil
theorem sa_cons (ha : SE X E e fe) (hr : SA X E es fr) (hs : starEach (e :: es) X.env = (false, eval e X.env) :: starEach es X.env := by rfl) : SA X E (e :: es) (aC fe fr) := by
  refine PA.weak (pa_cons ha hr hs) fun σ H Q ⟨H0, ev, s, rv, p⟩ => ?_
  refine ⟨H0, ev, s, rv, ?_⟩
  unfold aC at p
  cases ea : fe ev with
  | bad => rw [ea] at p; exact p
  | exc x => rw [ea] at p; exact p
  | ok a =>
    rw [ea] at p
    intro v H1 H' x1 r1
    refine ⟨H1, ev, x1.c, rv.mono x1.a, ?_⟩
    have p' := p.step x1
    simp only [Rs.ok_bind] at p'
    cases eb : fr ev with
    | bad => rw [eb] at p'; exact p'
    | exc x => rw [eb] at p'; exact p'
    | ok ds =>
      rw [eb] at p'
      intro vs H2 H'' x2 r2
      exact p' (v :: vs) H2 H'' x2 (.cons (r1.mono x2.a) r2)
theorem tA_of {Z : Wh} {σ : L2.St} {H : Hp} {α : Type} {op : List D → Rs α} {R : List V → Hp → Prop} {P : Hp → Hp → Rs α → Prop} (h : ∃ H0 ev, Same H0 H ∧ RpV Z.K H0 σ ev ∧ P H0 H ((fr ev).bind op))
    (step : ∀ H0 H H0' H' r, Ex2 H0 H H0' H' → P H0 H r → P H0' H' r) (hexc : ∀ H0 H x, P H0 H (.exc x) → ∀ H', Same H H' → EX Z.mg Z.E x H') (hbad : ∀ H0 H, ¬ P H0 H .bad)
    (fin : ∀ H0 H xs as, Same H0 H → RpL Z.K H0 as xs → P H0 H (op as) → R xs H) : tA Z fr σ H R := by
  obtain ⟨H0, ev, s, rv, p⟩ := h
  refine ⟨H0, ev, s, rv, ?_⟩
  cases ea : fr ev with
  | bad => rw [ea] at p; exact (hbad _ _ p).elim
  | exc x => rw [ea] at p; exact hexc _ _ _ p
  | ok as =>
    rw [ea] at p
    intro vs H1 H' x1 r1
    exact fin H1 H' vs as x1.c r1 (step _ _ _ _ _ x1 p)
theorem se_tup {k} (h : SA X E es fr) : SE X E (.Tuple es k pos) (eA (fun ds => if ds.length ≤ 1000 then .ok (.tuple ds) else .bad) fr) := by
  refine PE.weak (pe_tup h) fun σ H Q q => ?_
  refine tA_of (P := fun H0 H r => PostE (zOf X E) H0 H r Q) q (fun _ _ _ _ _ x p => p.step x) (fun _ _ _ p => p) (fun _ _ p => p) fun H0 H xs as s r p => ?_
  by_cases hl : as.length ≤ 1000
  · rw [if_pos hl] at p
    refine ⟨by rw [r.length]; exact Nat.le_of_lt (small1000 hl), fun t nt => ?_⟩
    exact p (.ref t) _ _ (Ex2.new s nt _) ⟨t, xs, rfl, SqT.of upd_same, r.mono (same_new (s.free nt) _)⟩
  · rw [if_neg hl] at p; exact p.elim
theorem so_lst (h : SA X E es fr) : SO X E (.List es pos) (eA (fun ds => if ds.length ≤ 1000 then .ok (.list ds) else .bad) fr) := by
  refine PE.weak (pe_lst h) fun σ H Q q => ?_
  refine tA_of (P := fun H0 H r => PostO (zOf X E) H0 H r Q) q (fun _ _ _ _ _ x p => p.step x) (fun _ _ _ p => p) (fun _ _ p => p) fun H0 H xs as s r p => ?_
  by_cases hl : as.length ≤ 1000
  · rw [if_pos hl] at p
    refine ⟨by rw [r.length]; exact Nat.le_of_lt (small1000 hl), fun t nt => ?_⟩
    exact p t _ _ (Ex2.out s nt _) nt (s.free nt) (.inl ⟨as, xs, rfl, upd_same, r⟩)
  · rw [if_neg hl] at p; exact p.elim
theorem se_callB {x : Str} {p : Pos} {id : String} {r : List V → Hp → VK → Prop} {op : List D → Rs D} (hc : CallR X (.builtin id) r) (ho : CaS (zOf X E) r op) (hm : X.mg x = none) (hv : bootBuiltins x = some (.builtin id)) (ha : SA X E (e :: es) fr) (hg : Gl X x := by rfl)
    (hn : x ≠ "__name__" := by decide) (hdb : (x == ("__debug__" : Str)) = false := by decide) (he : starEach (e :: es) X.env = (false, eval e X.env) :: starEach es X.env := by rfl) (hpl : (backTo pos (starEach es X.env)).any (·.1) = false := by rfl) :
    SE X E (.Call (.Name x p) (e :: es) [] pos) (eA op fr) := by
  refine PE.weak (pe_callB hc hg hm hv ha hn hdb he hpl) fun σ H Q q => ?_
  exact tA_of (P := fun H0 H r => PostE (zOf X E) H0 H r Q) q (fun _ _ _ _ _ x p => p.step x) (fun _ _ _ p => p) (fun _ _ p => p) fun H0 H xs as s r p => ho H0 H xs as Q s r p
theorem se_callT {x : Str} {p : Pos} {T : String} {r : List V → Hp → VK → Prop} {op : List D → Rs D} (hc : CallR X (.type T) r) (ho : CaS (zOf X E) r op) (hm : X.mg x = none) (hv : bootBuiltins x = some (.type T)) (ha : SA X E (e :: es) fr) (hg : Gl X x := by rfl)
    (hn : x ≠ "__name__" := by decide) (hdb : (x == ("__debug__" : Str)) = false := by decide) (he : starEach (e :: es) X.env = (false, eval e X.env) :: starEach es X.env := by rfl) (hpl : (backTo pos (starEach es X.env)).any (·.1) = false := by rfl) :
    SE X E (.Call (.Name x p) (e :: es) [] pos) (eA op fr) := by
  refine PE.weak (pe_callTy hc hg hm hv ha hn hdb he hpl) fun σ H Q q => ?_
  exact tA_of (P := fun H0 H r => PostE (zOf X E) H0 H r Q) q (fun _ _ _ _ _ x p => p.step x) (fun _ _ _ p => p) (fun _ _ p => p) fun H0 H xs as s r p => ho H0 H xs as Q s r p
theorem so_callT {x : Str} {p : Pos} {T : String} {r : List V → Hp → VK → Prop} {op : List D → Rs D} (hc : CallR X (.type T) r) (ho : CaO (zOf X E) r op) (hm : X.mg x = none) (hv : bootBuiltins x = some (.type T)) (ha : SA X E (e :: es) fr) (hg : Gl X x := by rfl)
    (hn : x ≠ "__name__" := by decide) (hdb : (x == ("__debug__" : Str)) = false := by decide) (he : starEach (e :: es) X.env = (false, eval e X.env) :: starEach es X.env := by rfl) (hpl : (backTo pos (starEach es X.env)).any (·.1) = false := by rfl) :
    SO X E (.Call (.Name x p) (e :: es) [] pos) (eA op fr) := by
  refine PE.weak (pe_callTy hc hg hm hv ha hn hdb he hpl) fun σ H Q q => ?_
  exact tA_of (P := fun H0 H r => PostO (zOf X E) H0 H r Q) q (fun _ _ _ _ _ x p => p.step x) (fun _ _ _ p => p) (fun _ _ p => p) fun H0 H xs as s r p => ho H0 H xs as Q s r p
/-! tests -/
theorem sw_one {op} {w : Ev → Rs Bool} (h : SB X E a w) (hop : op = BoolOp.And ∨ op = BoolOp.Or) : SW X E (.BoolOp op [a] pos) w := by
  rcases hop with rfl | rfl
  · exact pw_and1 h
  · exact pw_or1 h
theorem tB_seq {Z : Wh} {σ : L2.St} {H : Hp} {Q : Bool → Hp → Prop} {k : Bool → Ev → Rs Bool} {R : Bool → Hp → Prop} (h : tB Z (fun ev => (ga ev).bind fun a => k a ev) σ H Q)
    (fin : ∀ c H1, tB Z (k c) σ H1 Q → R c H1) : tB Z ga σ H R := by
  obtain ⟨H0, ev, s, rv, p⟩ := h
  refine ⟨H0, ev, s, rv, ?_⟩
  simp only at p
  cases ea : ga ev with
  | bad => rw [ea] at p; exact p
  | exc x => rw [ea] at p; exact p
  | ok c =>
    rw [ea] at p
    intro H' s'
    exact fin c H' ⟨H0, ev, s.trans s', rv, p.step s'⟩
theorem sw_and (ha : SB X E a ga) (hb : SW X E (.BoolOp .And (b :: rest) pos) gb) : SW X E (.BoolOp .And (a :: b :: rest) pos) (bAnd ga gb) := by
  refine PW.weak (pw_and ha hb) fun σ H Q q => tB_seq (k := fun a ev => if a = true then gb ev else .ok false) q fun c H1 q1 => ?_
  cases c with
  | true => exact q1
  | false =>
    obtain ⟨H0, ev, s, rv, p⟩ := q1
    exact p H1 (Same.refl _)
theorem sw_or (ha : SB X E a ga) (hb : SW X E (.BoolOp .Or (b :: rest) pos) gb) : SW X E (.BoolOp .Or (a :: b :: rest) pos) (bOr ga gb) := by
  refine PW.weak (pw_or ha hb) fun σ H Q q => tB_seq (k := fun a ev => if a = true then .ok true else gb ev) q fun c H1 q1 => ?_
  cases c with
  | false => exact q1
  | true =>
    obtain ⟨H0, ev, s, rv, p⟩ := q1
    exact p H1 (Same.refl _)
theorem sb_not (ha : SB X E a ga) : SB X E (.UnaryOp .Not a pos) (bNot ga) := by
  refine PT.weak (pt_not ha) fun σ H Q q => tB_seq (k := fun a ev => .ok (!a)) q fun c H1 q1 => ?_
  obtain ⟨H0, ev, s, rv, p⟩ := q1
  exact p H1 (Same.refl _)
theorem asB_ok {d : D} {k : Bool} (h : asB d = .ok k) : d = .bool k := by
  cases d <;> simp [asB] at h
  exact congrArg _ h
theorem tE_seqB {Z : Wh} {σ : L2.St} {H : Hp} {Q : VK} {k : Bool → Ev → Rs D} {R : Bool → Hp → Prop} (h : tE Z (fun ev => (fa ev).bind fun a => (asB a).bind fun a => k a ev) σ H Q)
    (fin : ∀ c H1, tE Z (k c) σ H1 Q → R c H1) : tE Z fa σ H fun x H1 => ∃ c, x = .bl c ∧ R c H1 := by
  obtain ⟨H0, ev, s, rv, p⟩ := h
  refine ⟨H0, ev, s, rv, ?_⟩
  simp only at p
  cases ea : fa ev with
  | bad => rw [ea] at p; exact p
  | exc x => rw [ea] at p; exact p
  | ok d =>
    rw [ea] at p
    intro v H1 H' x1 r1
    cases eb : asB d with
    | bad => rw [Rs.ok_bind, eb] at p; exact p.elim
    | exc x => cases d <;> simp [asB] at eb
    | ok c =>
      rw [Rs.ok_bind, eb] at p
      have := asB_ok eb
      subst this
      exact ⟨c, r1, fin c H' ⟨H1, ev, x1.c, rv.mono x1.a, p.step x1⟩⟩
theorem se_one {op} (h : SE X E a fa) : SE X E (.BoolOp op [a] pos) fa := pe_one h
theorem se_and (ha : SE X E a fa) (hb : SE X E (.BoolOp .And (b :: rest) pos) fb) : SE X E (.BoolOp .And (a :: b :: rest) pos) (eAnd fa fb) := by
  refine PE.weak (pe_and ha hb) fun σ H Q q => tE_seqB (k := fun a ev => if a = true then fb ev else .ok (.bool false)) q fun c H1 q1 => ?_
  cases c with
  | true => exact q1
  | false =>
    obtain ⟨H0, ev, s, rv, p⟩ := q1
    exact PostE.now s p rfl
theorem se_or (ha : SE X E a fa) (hb : SE X E (.BoolOp .Or (b :: rest) pos) fb) : SE X E (.BoolOp .Or (a :: b :: rest) pos) (eOr fa fb) := by
  refine PE.weak (pe_or ha hb) fun σ H Q q => tE_seqB (k := fun a ev => if a = true then .ok (.bool true) else fb ev) q fun c H1 q1 => ?_
  cases c with
  | false => exact q1
  | true =>
    obtain ⟨H0, ev, s, rv, p⟩ := q1
    exact PostE.now s p rfl
theorem se_not (ha : SE X E a fa) : SE X E (.UnaryOp .Not a pos) (eNot fa) := by
  refine PE.weak (pe_not ha) fun σ H Q q => tE_seqB (k := fun a ev => .ok (.bool (!a))) q fun c H1 q1 => ?_
  obtain ⟨H0, ev, s, rv, p⟩ := q1
  exact PostE.now s p rfl
/-- a < b < c -/
def eCh (op op' : D → D → Rs D) (fa fb fc : Ev → Rs D) : Ev → Rs D := fun ev => (fa ev).bind fun a => (fb ev).bind fun b => (op a b).bind fun z => (asB z).bind fun k => if k = true then (fc ev).bind fun c => op' b c else .ok (.bool false)
/-- an operation that makes nothing and answers a bool -/
def OpB (Z : Wh) (r : R2) (op : D → D → Rs D) : Prop := ∀ (H0 H : Hp) (x y : V) (a b d : D) (Q : VK), Same H0 H → Rp Z.K H0 a x → Rp Z.K H0 b y → op a b = .ok d → (∀ v, Rp Z.K H0 d v → Q v H) → r x y H Q
theorem chain_of {Z : Wh} {r r' : R2} {op op' : D → D → Rs D} {fc : Ev → Rs D} (ho : OpS Z r op) (ho' : OpS Z r' op') (hne : ∀ a b x, op a b ≠ .exc x) {σ : L2.St} {H : Hp} {Q : VK} (h : tE Z (eCh op op' fa fb fc) σ H Q) :
    tChain r r' (tE Z fa) (tE Z fb) (tE Z fc) σ H Q := by
  obtain ⟨H0, ev, s, rv, p⟩ := h
  unfold eCh at p
  refine ⟨H0, ev, s, rv, ?_⟩
  cases ea : fa ev with
  | bad => rw [ea] at p; exact p
  | exc x => rw [ea] at p; exact p
  | ok a =>
    rw [ea] at p
    intro v H1 H' x1 r1
    refine ⟨H1, ev, x1.c, rv.mono x1.a, ?_⟩
    have p := p.step x1
    simp only [Rs.ok_bind] at p
    cases eb : fb ev with
    | bad => rw [eb] at p; exact p
    | exc x => rw [eb] at p; exact p
    | ok b =>
      rw [eb] at p
      intro u H2 H'' x2 r2
      have p := p.step x2
      simp only [Rs.ok_bind] at p
      cases ez : op a b with
      | bad => rw [ez] at p; exact p.elim
      | exc x => exact (hne _ _ _ ez).elim
      | ok z =>
        rw [ez] at p
        refine ho H2 H'' v u a b _ x2.c (r1.mono x2.a) r2 ?_
        rw [ez]
        intro w H3 H3' x3 r3
        have p3 := p.step x3
        clear p
        simp only [Rs.ok_bind] at p3
        cases ek : asB z with
        | bad => rw [ek] at p3; exact p3.elim
        | exc x => cases z <;> simp [asB] at ek
        | ok k =>
          rw [ek] at p3
          have := asB_ok ek
          subst this
          refine ⟨k, r3, ?_⟩
          cases k with
          | false =>
            rw [if_neg Bool.false_ne_true]
            exact PostE.now (d := .bool false) x3.c p3 rfl
          | true =>
            rw [if_pos rfl]
            refine ⟨H3, ev, x3.c, rv.mono ((x1.a.trans x2.a).trans x3.a), ?_⟩
            simp only [Rs.ok_bind, if_true] at p3
            cases ec : fc ev with
            | bad => rw [ec] at p3; exact p3
            | exc x => rw [ec] at p3; exact p3
            | ok c =>
              rw [ec] at p3
              intro w' H4 H4' x4 r4
              exact ho' H4 H4' u w' b c Q x4.c (r2.mono (x3.a.trans x4.a)) r4 (p3.step x4)
end
end Sk

namespace Sk
open PySem PySem.Spec PyProof.Rows L2

/-! ### lists of one kind -/
def intsOf : List D → Option (List Int)
  | [] => some []
  | .int i :: r => (intsOf r).map (i :: ·)
  | _ :: _ => none
def strsOf : List D → Option (List Str)
  | [] => some []
  | .str i :: r => (strsOf r).map (i :: ·)
  | _ :: _ => none
def boolsOf : List D → Option (List Bool)
  | [] => some []
  | .bool i :: r => (boolsOf r).map (i :: ·)
  | _ :: _ => none
theorem intsOf_some : ∀ {ds : List D} {ns : List Int}, intsOf ds = some ns → ds = ns.map .int
  | [], ns, h => by simp [intsOf] at h; subst h; rfl
  | d :: r, ns, h => by
    cases d <;> simp [intsOf] at h
    obtain ⟨ms, e, rfl⟩ := h
    rw [intsOf_some e]; rfl
theorem strsOf_some : ∀ {ds : List D} {ns : List Str}, strsOf ds = some ns → ds = ns.map .str
  | [], ns, h => by simp [strsOf] at h; subst h; rfl
  | d :: r, ns, h => by
    cases d <;> simp [strsOf] at h
    obtain ⟨ms, e, rfl⟩ := h
    rw [strsOf_some e]; rfl
theorem boolsOf_some : ∀ {ds : List D} {ns : List Bool}, boolsOf ds = some ns → ds = ns.map .bool
  | [], ns, h => by simp [boolsOf] at h; subst h; rfl
  | d :: r, ns, h => by
    cases d <;> simp [boolsOf] at h
    obtain ⟨ms, e, rfl⟩ := h
    rw [boolsOf_some e]; rfl
theorem intsOf_map : ∀ ns : List Int, intsOf (ns.map .int) = some ns
  | [] => rfl
  | n :: r => by simp [intsOf, intsOf_map r]
theorem strsOf_map : ∀ ns : List Str, strsOf (ns.map .str) = some ns
  | [] => rfl
  | n :: r => by simp [strsOf, strsOf_map r]
theorem boolsOf_map : ∀ ns : List Bool, boolsOf (ns.map .bool) = some ns
  | [] => rfl
  | n :: r => by simp [boolsOf, boolsOf_map r]

/-! ### the pure operations -/
def opAdd : D → D → Rs D
  | .int i, .int j => .ok (.int (i + j))
  | .str x, .str y => if x.length + y.length ≤ 100000 then .ok (.str (x ++ y)) else .bad
  | _, _ => .bad
def opSub : D → D → Rs D
  | .int i, .int j => .ok (.int (i - j))
  | _, _ => .bad
def cmul (i j : Int) : Bool := decide ((-(2 ^ 64) < i ∧ i < 2 ^ 64) ∨ (-(2 ^ 64) < j ∧ j < 2 ^ 64))
def opMul : D → D → Rs D
  | .int i, .int j => if cmul i j = true then .ok (.int (i * j)) else .bad
  | _, _ => .bad
def opDiv : D → D → Rs D
  | .int i, .int j => if 0 < j ∧ j < 1073741824 then .ok (.int (i / j)) else .bad
  | _, _ => .bad
def opMod : D → D → Rs D
  | .int i, .int j => if 0 < j then .ok (.int (i % j)) else .bad
  | _, _ => .bad
def opCat : D → D → Rs D
  | .list xs, .list ys => if xs.length + ys.length ≤ 100000 then .ok (.list (xs ++ ys)) else .bad
  | _, _ => .bad
def opLt : D → D → Rs D
  | .int i, .int j => .ok (.bool (decide (i < j)))
  | .str x, .str y => .ok (.bool (decide (x.cps.toList < y.cps.toList)))
  | _, _ => .bad
def opGt : D → D → Rs D
  | .int i, .int j => .ok (.bool (decide (j < i)))
  | .str x, .str y => .ok (.bool (decide (y.cps.toList < x.cps.toList)))
  | _, _ => .bad
def opLe : D → D → Rs D
  | .int i, .int j => .ok (.bool (decide (i ≤ j)))
  | .str x, .str y => .ok (.bool (!decide (y.cps.toList < x.cps.toList)))
  | _, _ => .bad
def opGe : D → D → Rs D
  | .int i, .int j => .ok (.bool (decide (j ≤ i)))
  | _, _ => .bad
def opEq : D → D → Rs D
  | .int x, .int y => .ok (.bool (decide (x = y)))
  | .str x, .str y => .ok (.bool (decide (x = y)))
  | a, b => if SeqAt.shaped a = true ∧ SeqAt.shaped b = true then .ok (.bool (PyData.eqv a b)) else .bad
def opNe : D → D → Rs D
  | .int x, .int y => .ok (.bool (!decide (x = y)))
  | .str x, .str y => .ok (.bool (!decide (x = y)))
  | a, b => if SeqAt.shaped a = true ∧ SeqAt.shaped b = true then .ok (.bool (!PyData.eqv a b)) else .bad
def isNone : D → Bool
  | .none => true
  | _ => false
def opIs : D → D → Rs D
  | a, .none => .ok (.bool (isNone a))
  | _, _ => .bad
def opIsN : D → D → Rs D
  | a, .none => .ok (.bool (!isNone a))
  | _, _ => .bad
def inB : D → List D → Option Bool
  | .int i, ds => (intsOf ds).map fun ns => decide (i ∈ ns)
  | .str x, ds => (strsOf ds).map fun ns => decide (x ∈ ns)
  | _, _ => none
def rsB : Option Bool → Rs D
  | some b => .ok (.bool b)
  | none => .bad
def opIn : D → D → Rs D
  | a, .list ds => rsB (inB a ds)
  | a, .tuple ds => rsB (inB a ds)
  | .str x, .str z => match x.cps.toList with
    | [c] => .ok (.bool (decide (c ∈ z.cps.toList)))
    | _ => .bad
  | _, _ => .bad
def opNi : D → D → Rs D
  | a, .list ds => rsB ((inB a ds).map (!·))
  | a, .tuple ds => rsB ((inB a ds).map (!·))
  | _, _ => .bad
def rsO : Option D → Rs D
  | some b => .ok b
  | none => .bad
def opIx : D → D → Rs D
  | .list ds, .int i => rsO (atI ds i)
  | .tuple ds, .int i => rsO (atI ds i)
  | .str z, .int i => if z.length ≤ 100000 then rsO ((atI z.cps.toList i).map fun c => .str ⟨#[c]⟩) else .bad
  | _, _ => .bad
def opLen : List D → Rs D
  | [.list ds] => .ok (.int ds.length)
  | [.tuple ds] => .ok (.int ds.length)
  | [.str z] => if z.length ≤ 100000 then .ok (.int z.length) else .bad
  | _ => .bad
def minL : List Int → Int
  | [] => 0
  | [x] => x
  | x :: y :: r => min x (minL (y :: r))
theorem minL_mem : ∀ {ns : List Int}, ns ≠ [] → minL ns ∈ ns
  | [], h => absurd rfl h
  | [x], _ => by simp [minL]
  | x :: y :: r, _ => by
    have ih := minL_mem (ns := y :: r) (by simp)
    simp only [minL]
    by_cases c : x ≤ minL (y :: r)
    · rw [Int.min_eq_left c]; exact List.mem_cons_self
    · rw [Int.min_eq_right (by omega)]; exact List.mem_cons_of_mem _ ih
theorem minL_le : ∀ {ns : List Int} {x : Int}, x ∈ ns → minL ns ≤ x
  | [], x, h => absurd h (by simp)
  | [y], x, h => by
    have e : x = y := by simpa using h
    subst e; exact Int.le_refl _
  | a :: y :: r, x, h => by
    simp only [minL]
    rcases List.mem_cons.mp h with e | h
    · subst e; exact Int.min_le_left _ _
    · exact Int.le_trans (Int.min_le_right _ _) (minL_le h)
theorem minL_eq {ns : List Int} {m : Int} (h : m ∈ ns) (l : ∀ y ∈ ns, m ≤ y) : m = minL ns := by
  have n : ns ≠ [] := fun e => by rw [e] at h; simp at h
  have h1 := l _ (minL_mem n)
  have h2 := minL_le h
  omega
def minR (l : List Int) : Rs D := match l with
  | [] => .bad
  | n :: ns => .ok (.int (minL (n :: ns)))
def minO (l : Option (List Int)) : Rs D := match l with
  | some ns => minR ns
  | none => .bad
def opMin : List D → Rs D
  | [.list ds] => minO (intsOf ds)
  | [.int i, .int j] => .ok (.int (if j < i then j else i))
  | _ => .bad
def opMax : List D → Rs D
  | [.int i, .int j] => .ok (.int (if j > i then j else i))
  | _ => .bad
def rsI : Option Int → Rs D
  | some b => .ok (.int b)
  | none => .bad
def opSum : List D → Rs D
  | [.list ds] => rsI ((intsOf ds).map List.sum)
  | _ => .bad
def opAll : List D → Rs D
  | [.list ds] => rsB ((boolsOf ds).map fun bs => bs.all id)
  | _ => .bad
def opInt : List D → Rs D
  | [.int i] => .ok (.int i)
  | [.bool b] => .ok (.int (if b = true then 1 else 0))
  | _ => .bad
def opList : List D → Rs D
  | [.list ds] => .ok (.list ds)
  | [.tuple ds] => .ok (.list ds)
  | _ => .bad
def tyN : D → String
  | .none => "NoneType"
  | .bool _ => "bool"
  | .int _ => "int"
  | .str _ => "str"
  | .list _ => "list"
  | .tuple _ => "tuple"
  | .dict _ => "dict"
def isiB (T : String) : D → Bool
  | .none => T == "NoneType"
  | .bool _ => T == "bool" || T == "int"
  | .int _ => T == "int"
  | .str _ => T == "str"
  | .list _ => T == "list"
  | .tuple _ => T == "tuple"
  | .dict _ => T == "dict"
def opIsi (T : String) : D → Rs D := fun d => match d with
  | .dict _ => .bad
  | d => .ok (.bool (isiB T d))
def cutD {α : Type} (xs : List α) (lo hi : Option Int) : List α := (xs.drop (HT.sIx xs.length 0 lo)).take (HT.sIx xs.length xs.length hi - HT.sIx xs.length 0 lo)
def opSlS : D → Option Int → Option Int → Rs D
  | .str z, lo, hi => if z.length ≤ 100000 then .ok (.str (cutS z lo hi)) else .bad
  | _, _, _ => .bad
def opSlL : D → Option Int → Option Int → Rs D
  | .list ds, lo, hi => .ok (.list (cutD ds lo hi))
  | _, _, _ => .bad
def findI {α : Type} (p : α → Bool) : List α → Option Nat
  | [] => none
  | x :: r => if p x = true then some 0 else (findI p r).map (· + 1)
def ixB : D → List D → Option Nat
  | .int i, ds => (intsOf ds).bind fun ns => findI (fun x => decide (x = i)) ns
  | .str x, ds => (strsOf ds).bind fun ns => findI (fun y => decide (y = x)) ns
  | .bool b, ds => (boolsOf ds).bind fun ns => findI (fun y => y == b) ns
  | _, _ => none
def rsN : Option Nat → Rs D
  | some b => .ok (.int b)
  | none => .bad
def opIndex : List D → List D → Rs D
  | ds, [d] => rsN (ixB d ds)
  | _, _ => .bad

/-! ### they are what the machine's operations do -/
theorem sz5 {n : Nat} (h : n ≤ 100000) : n ≤ sizeLine := Nat.le_trans h (by decide)
section
variable {X : Cx} {E : XK}
theorem os_add : OpS (zOf X E) (fun x y H Q => (rI0 fun i j => .int (i + j)) x y H Q ∨ (∃ i j, x = .str i ∧ y = .str j ∧ i.length + j.length ≤ sizeLine ∧ Q (.str (i ++ j)) H)) opAdd := by
  intro H0 H x y a b Q s ra rb p
  cases a <;> cases b <;> first | exact p.elim | skip
  case int.int i j => exact .inl ⟨i, j, ra, rb, PostE.now (d := .int (i + j)) s p rfl⟩
  case str.str i j =>
    simp only [opAdd] at p
    by_cases c : i.length + j.length ≤ 100000
    · rw [if_pos c] at p
      exact .inr ⟨i, j, ra, rb, sz5 c, PostE.now (d := .str (i ++ j)) s p rfl⟩
    · rw [if_neg c] at p; exact p.elim
theorem ox_add : OpR X (binaryOp .Add) (fun x y H Q => (rI0 fun i j => .int (i + j)) x y H Q ∨ (∃ i j, x = .str i ∧ y = .str j ∧ i.length + j.length ≤ sizeLine ∧ Q (.str (i ++ j)) H)) := op_add.or op_add_str
theorem os_sub : OpS (zOf X E) (rI0 fun i j => .int (i - j)) opSub := by
  intro H0 H x y a b Q s ra rb p
  cases a <;> cases b <;> first | exact p.elim | skip
  case int.int i j => exact ⟨i, j, ra, rb, PostE.now (d := .int (i - j)) s p rfl⟩
theorem os_mul : OpS (zOf X E) (rI CMul fun i j => .int (i * j)) opMul := by
  intro H0 H x y a b Q s ra rb p
  cases a <;> cases b <;> first | exact p.elim | skip
  case int.int i j =>
    simp only [opMul] at p
    by_cases c : cmul i j = true
    · rw [if_pos c] at p
      exact ⟨i, j, ra, rb, of_decide_eq_true (p := (-(2 ^ 64) < i ∧ i < 2 ^ 64) ∨ (-(2 ^ 64) < j ∧ j < 2 ^ 64)) c, PostE.now (d := .int (i * j)) s p rfl⟩
    · rw [if_neg c] at p; exact p.elim
theorem os_div : OpS (zOf X E) (rI CDiv fun i j => .int (i / j)) opDiv := by
  intro H0 H x y a b Q s ra rb p
  cases a <;> cases b <;> first | exact p.elim | skip
  case int.int i j =>
    simp only [opDiv] at p
    by_cases c : 0 < j ∧ j < 1073741824
    · rw [if_pos c] at p
      exact ⟨i, j, ra, rb, c, PostE.now (d := .int (i / j)) s p rfl⟩
    · rw [if_neg c] at p; exact p.elim
theorem os_mod : OpS (zOf X E) (rI (fun _ j => 0 < j) fun i j => .int (i % j)) opMod := by
  intro H0 H x y a b Q s ra rb p
  cases a <;> cases b <;> first | exact p.elim | skip
  case int.int i j =>
    simp only [opMod] at p
    by_cases c : 0 < j
    · rw [if_pos c] at p
      exact ⟨i, j, ra, rb, c, PostE.now (d := .int (i % j)) s p rfl⟩
    · rw [if_neg c] at p; exact p.elim
/-- + of two lists that are read -/
def rCatS (K : PySem.W.Frag) : R2 := fun x y H Q => ∃ l b xs zs, x = .ref l ∧ y = .ref b ∧ SqL K H l xs ∧ SqL K H b zs ∧ xs.length + zs.length ≤ sizeLine ∧ ∀ p, H p = none → Q (.ref p) (upd H p (.lst (xs ++ zs)))
theorem ox_cat : OpR X (binaryOp .Add) (rCatS X.K) := by
  intro pins s σ H x y v u Q I rx ry h
  obtain ⟨l, b, xs, zs, rfl, rfl, hH, hB, hz, q⟩ := h
  cases rx
  cases ry
  obtain ⟨its, r, ⟨⟨cls, dd, data, sl⟩, n, e, hc, hd, hdt⟩, z⟩ := I.list hH
  obtain ⟨its2, r2, ⟨⟨cls2, dd2, data2, sl2⟩, n2, e2, hc2, hd2, hdt2⟩, z2⟩ := I.list hB
  simp only at hc hd hdt hc2 hd2 hdt2
  subst hc hdt hc2 hdt2
  have hl := r.length
  have hl2 := r2.length
  have hz' : its.toArray.size + its2.toArray.size ≤ sizeLine := by rw [List.size_toArray, List.size_toArray]; omega
  have ea : its.toArray ++ its2.toArray = (its ++ its2).toArray := by simp
  refine concat_meets ⟨_, e, rfl⟩ ⟨_, e2, rfl⟩ noFill_list_add seq_list_add PySem.F.slot_list_add PySem.F.entry_list_add (PySem.F.args_list_add_2 _ _) (list_addW l b its.toArray its2.toArray n n2 dd dd2 sl sl2 hz') ⟨e, e2, ?_⟩
  rw [ea]
  exact ⟨.ref _, _, I.lnew (t' := s.toks) (r.append r2) (by rw [List.length_append]; omega), rfl, q _ I.fresh⟩
theorem oo_cat : OpO (zOf X E) (rCatS X.K) opCat := by
  intro H0 H x y a b Q s ra rb p
  cases a <;> cases b <;> first | exact p.elim | skip
  case list.list i j =>
    simp only [opCat] at p
    by_cases c : i.length + j.length ≤ 100000
    · rw [if_pos c] at p
      obtain ⟨a, vs, rfl, h1, l1⟩ := ra
      obtain ⟨b, ws, rfl, h2, l2⟩ := rb
      refine ⟨a, b, vs, ws, rfl, rfl, s.seq h1, s.seq h2, by rw [l1.length, l2.length]; exact sz5 c, fun t nt => ?_⟩
      exact p t _ _ (Ex2.out s nt _) nt (s.free nt) (.inl ⟨_, _, rfl, upd_same, l1.append l2⟩)
    · rw [if_neg c] at p; exact p.elim
theorem ox_lt : OpR X (compareOp .Lt) (fun x y H Q => (rI0 fun i j => .bl (decide (i < j))) x y H Q ∨ (∃ i j, x = .str i ∧ y = .str j ∧ Q (.bl (decide (i.cps.toList < j.cps.toList))) H)) := op_lt.or op_lt_str
theorem os_lt : OpS (zOf X E) (fun x y H Q => (rI0 fun i j => .bl (decide (i < j))) x y H Q ∨ (∃ i j, x = .str i ∧ y = .str j ∧ Q (.bl (decide (i.cps.toList < j.cps.toList))) H)) opLt := by
  intro H0 H x y a b Q s ra rb p
  cases a <;> cases b <;> first | exact p.elim | skip
  case int.int i j => exact .inl ⟨i, j, ra, rb, PostE.now s p rfl⟩
  case str.str i j => exact .inr ⟨i, j, ra, rb, PostE.now s p rfl⟩
theorem ox_gt : OpR X (compareOp .Gt) (fun x y H Q => (rI0 fun i j => .bl (decide (j < i))) x y H Q ∨ (∃ i j, x = .str i ∧ y = .str j ∧ Q (.bl (decide (j.cps.toList < i.cps.toList))) H)) := op_gt.or op_gt_str
theorem os_gt : OpS (zOf X E) (fun x y H Q => (rI0 fun i j => .bl (decide (j < i))) x y H Q ∨ (∃ i j, x = .str i ∧ y = .str j ∧ Q (.bl (decide (j.cps.toList < i.cps.toList))) H)) opGt := by
  intro H0 H x y a b Q s ra rb p
  cases a <;> cases b <;> first | exact p.elim | skip
  case int.int i j => exact .inl ⟨i, j, ra, rb, PostE.now s p rfl⟩
  case str.str i j => exact .inr ⟨i, j, ra, rb, PostE.now s p rfl⟩
theorem ox_le : OpR X (compareOp .LtE) (fun x y H Q => (rI0 fun i j => .bl (decide (i ≤ j))) x y H Q ∨ (∃ i j, x = .str i ∧ y = .str j ∧ Q (.bl (!decide (j.cps.toList < i.cps.toList))) H)) := op_le.or op_le_str
theorem os_le : OpS (zOf X E) (fun x y H Q => (rI0 fun i j => .bl (decide (i ≤ j))) x y H Q ∨ (∃ i j, x = .str i ∧ y = .str j ∧ Q (.bl (!decide (j.cps.toList < i.cps.toList))) H)) opLe := by
  intro H0 H x y a b Q s ra rb p
  cases a <;> cases b <;> first | exact p.elim | skip
  case int.int i j => exact .inl ⟨i, j, ra, rb, PostE.now s p rfl⟩
  case str.str i j => exact .inr ⟨i, j, ra, rb, PostE.now s p rfl⟩
theorem os_ge : OpS (zOf X E) (rI0 fun i j => .bl (decide (j ≤ i))) opGe := by
  intro H0 H x y a b Q s ra rb p
  cases a <;> cases b <;> first | exact p.elim | skip
  case int.int i j => exact ⟨i, j, ra, rb, PostE.now s p rfl⟩
theorem Room.u64 {k : Nat} {A : Around} (r : Room k A) : A.units + 64 < cLine := r.units
theorem deepE {Z : Wh} {H0 H : Hp} {x y : V} {a b : D} {Q : VK} {r : Bool} (s : Same H0 H) (ra : Rp Z.K H0 a x) (rb : Rp Z.K H0 b y)
    (p : PostE Z H0 H (if SeqAt.shaped a = true ∧ SeqAt.shaped b = true then .ok (.bool r) else .bad) Q) : ∃ d e, Dp Z.K H x d ∧ Dp Z.K H y e ∧ SeqAt.shaped d = true ∧ SeqAt.shaped e = true ∧ d = a ∧ e = b ∧ Q (.bl r) H := by
  by_cases c : SeqAt.shaped a = true ∧ SeqAt.shaped b = true
  · rw [if_pos c] at p
    exact ⟨a, b, dp_of (SeqAt.canLay_of_shaped c.1) (ra.mono s), dp_of (SeqAt.canLay_of_shaped c.2) (rb.mono s), c.1, c.2, rfl, rfl, PostE.now s p rfl⟩
  · rw [if_neg c] at p; exact p.elim
theorem ox_eq (hu : X.A.units + 64 < cLine) : OpR X (compareOp .Eq) (fun x y H Q => rEq x y H Q ∨ rEqD X.K x y H Q) := op_eq.or (op_eqD hu)
theorem os_eq : OpS (zOf X E) (fun x y H Q => rEq x y H Q ∨ rEqD X.K x y H Q) opEq := by
  intro H0 H x y a b Q s ra rb p
  have deep : PostE (zOf X E) H0 H (if SeqAt.shaped a = true ∧ SeqAt.shaped b = true then .ok (.bool (PyData.eqv a b)) else .bad) Q → rEqD X.K x y H Q := fun p => by
    obtain ⟨d, e, h1, h2, h3, h4, rfl, rfl, q⟩ := deepE s ra rb p
    exact ⟨_, _, h1, h2, h3, h4, q⟩
  cases a <;> cases b <;> first | exact .inr (deep p) | skip
  case str.str i j =>
    cases (show x = .str i from ra); cases (show y = .str j from rb)
    refine .inl ⟨rfl, ?_⟩
    rw [dec_str, Bool.beq_eq_decide_eq]
    exact PostE.now s p rfl
theorem ox_ne (hu : X.A.units + 64 < cLine) : OpR X (compareOp .NotEq) (fun x y H Q => rNe x y H Q ∨ rNeD X.K x y H Q) := op_ne.or (op_neD hu)
theorem os_ne : OpS (zOf X E) (fun x y H Q => rNe x y H Q ∨ rNeD X.K x y H Q) opNe := by
  intro H0 H x y a b Q s ra rb p
  have deep : PostE (zOf X E) H0 H (if SeqAt.shaped a = true ∧ SeqAt.shaped b = true then .ok (.bool (!PyData.eqv a b)) else .bad) Q → rNeD X.K x y H Q := fun p => by
    obtain ⟨d, e, h1, h2, h3, h4, rfl, rfl, q⟩ := deepE s ra rb p
    exact ⟨_, _, h1, h2, h3, h4, q⟩
  cases a <;> cases b <;> first | exact .inr (deep p) | skip
  case str.str i j =>
    cases (show x = .str i from ra); cases (show y = .str j from rb)
    refine .inl ⟨rfl, ?_⟩
    rw [dec_str, Bool.beq_eq_decide_eq]
    exact PostE.now s p rfl
theorem isNone_eq {K : PySem.W.Frag} {H0 : Hp} {a : D} {x : V} (r : Rp K H0 a x) : decide (x = .non) = isNone a := by
  cases a with
  | none => cases r; rfl
  | bool b => cases r; rfl
  | int b => cases r; rfl
  | str b => cases r; rfl
  | list b => obtain ⟨_, _, rfl, _⟩ := r; rfl
  | tuple b => obtain ⟨_, _, rfl, _⟩ := r; rfl
  | dict b => rcases r with ⟨_, _, rfl, _⟩ | ⟨_, _, _, rfl, _⟩ <;> rfl
theorem os_is : OpS (zOf X E) (fun x y H Q => y = .non ∧ Q (.bl (decide (x = .non))) H) opIs := by
  intro H0 H x y a b Q s ra rb p
  cases b with
  | none => exact ⟨rb, by rw [isNone_eq ra]; exact PostE.now (d := .bool (isNone a)) s (by cases a <;> exact p) rfl⟩
  | _ => cases a <;> exact p.elim
theorem os_isn : OpS (zOf X E) (fun x y H Q => y = .non ∧ Q (.bl (!decide (x = .non))) H) opIsN := by
  intro H0 H x y a b Q s ra rb p
  cases b with
  | none => exact ⟨rb, by rw [isNone_eq ra]; exact PostE.now (d := .bool (!isNone a)) s (by cases a <;> exact p) rfl⟩
  | _ => cases a <;> exact p.elim
theorem all_flatI (ns : List Int) : (ns.map V.int).all flatV = true := by rw [List.all_map]; exact List.all_eq_true.mpr fun _ _ => rfl
theorem all_flatS (ns : List Str) : (ns.map V.str).all flatV = true := by rw [List.all_map]; exact List.all_eq_true.mpr fun _ _ => rfl
theorem all_flatB (ns : List Bool) : (ns.map V.bl).all flatV = true := by rw [List.all_map]; exact List.all_eq_true.mpr fun _ _ => rfl
theorem inV_int (i : Int) : ∀ ns : List Int, inV (.int i) (ns.map V.int) = decide (i ∈ ns)
  | [] => rfl
  | n :: r => by
    have ih := inV_int i r
    unfold inV at ih ⊢
    rw [List.map_cons, List.any_cons, ih]
    by_cases c : i = n
    · subst c; simp [eqV]
    · have c' : ¬ n = i := fun e => c e.symm
      simp [eqV, c, c']
theorem inV_str (i : Str) : ∀ ns : List Str, inV (.str i) (ns.map V.str) = decide (i ∈ ns)
  | [] => rfl
  | n :: r => by
    have ih := inV_str i r
    unfold inV at ih ⊢
    rw [List.map_cons, List.any_cons, ih]
    by_cases c : i = n
    · subst c; simp [eqV]
    · have c' : ¬ n = i := fun e => c e.symm
      simp [eqV, c, c']
theorem inB_run {K : PySem.W.Frag} {H0 : Hp} {a : D} {x : V} {ds : List D} {vs : List V} {b : Bool} (ra : Rp K H0 a x) (rl : RpL K H0 ds vs) (h : inB a ds = some b) : flatV x = true ∧ vs.all flatV = true ∧ inV x vs = b := by
  cases a <;> simp [inB] at h
  case int i =>
    obtain ⟨ns, e, rfl⟩ := h
    have := intsOf_some e
    subst this
    have ev := rl.ints
    subst ev
    cases (show x = .int i from ra)
    exact ⟨rfl, all_flatI _, inV_int _ _⟩
  case str i =>
    obtain ⟨ns, e, rfl⟩ := h
    have := strsOf_some e
    subst this
    have ev := rl.strs
    subst ev
    cases (show x = .str i from ra)
    exact ⟨rfl, all_flatS _, inV_str _ _⟩
abbrev rInS1 : R2 := fun x y H Q => ∃ (c : Nat) (z : Str), x = .str ⟨#[c]⟩ ∧ y = .str z ∧ Q (.bl (decide (c ∈ z.cps.toList))) H
theorem ox_in : OpR X (compareOp .In) (fun x y H Q => rIn X.K false x y H Q ∨ rInS1 x y H Q) := op_in_seq.or op_in_sign
theorem rsB_run {Z : Wh} {H0 H : Hp} {o : Option Bool} {Q : VK} (s : Same H0 H) (p : PostE Z H0 H (rsB o) Q) : ∃ b, o = some b ∧ Q (.bl b) H := by
  cases o with
  | none => exact p.elim
  | some b => exact ⟨b, rfl, PostE.now (d := .bool b) s p rfl⟩
theorem os_in : OpS (zOf X E) (fun x y H Q => rIn X.K false x y H Q ∨ rInS1 x y H Q) opIn := by
  intro H0 H x y a b Q s ra rb p
  cases b with
  | list ds =>
    obtain ⟨b, e, q⟩ := rsB_run s (show PostE (zOf X E) H0 H (rsB (inB a ds)) Q by cases a <;> exact p)
    obtain ⟨l, vs, rfl, h1, h2⟩ := rb
    obtain ⟨f1, f2, rfl⟩ := inB_run ra h2 e
    exact .inl ⟨l, vs, rfl, .inl (s.seq h1), f1, f2, q⟩
  | tuple ds =>
    obtain ⟨b, e, q⟩ := rsB_run s (show PostE (zOf X E) H0 H (rsB (inB a ds)) Q by cases a <;> exact p)
    obtain ⟨l, vs, rfl, h1, h2⟩ := rb
    obtain ⟨f1, f2, rfl⟩ := inB_run ra h2 e
    exact .inl ⟨l, vs, rfl, .inr (sqt_same s h1), f1, f2, q⟩
  | str z =>
    cases a <;> first | exact p.elim | skip
    case str x' =>
      simp only [opIn] at p
      split at p
      · rename_i c hc
        have e : x' = ⟨#[c]⟩ := by
          obtain ⟨cps⟩ := x'
          simp only at hc
          congr 1
          rw [← Array.toArray_toList (xs := cps), hc]
        subst e
        exact .inr ⟨c, z, ra, rb, PostE.now s p rfl⟩
      · exact p.elim
  | _ => cases a <;> exact p.elim
theorem os_ni : OpS (zOf X E) (rIn X.K true) opNi := by
  intro H0 H x y a b Q s ra rb p
  cases b with
  | list ds =>
    obtain ⟨b, e, q⟩ := rsB_run s (show PostE (zOf X E) H0 H (rsB ((inB a ds).map (!·))) Q by cases a <;> exact p)
    obtain ⟨b', e9, rfl⟩ := Option.map_eq_some_iff.mp e
    obtain ⟨l, vs, rfl, h1, h2⟩ := rb
    obtain ⟨f1, f2, rfl⟩ := inB_run ra h2 e9
    exact ⟨l, vs, rfl, .inl (s.seq h1), f1, f2, q⟩
  | tuple ds =>
    obtain ⟨b, e, q⟩ := rsB_run s (show PostE (zOf X E) H0 H (rsB ((inB a ds).map (!·))) Q by cases a <;> exact p)
    obtain ⟨b', e9, rfl⟩ := Option.map_eq_some_iff.mp e
    obtain ⟨l, vs, rfl, h1, h2⟩ := rb
    obtain ⟨f1, f2, rfl⟩ := inB_run ra h2 e9
    exact ⟨l, vs, rfl, .inr (sqt_same s h1), f1, f2, q⟩
  | _ => cases a <;> exact p.elim
theorem RpL.at {K : PySem.W.Frag} {H : Hp} {ds : List D} {vs : List V} {i : Int} {d : D} (h : RpL K H ds vs) (e : atI ds i = some d) : ∃ v, atI vs i = some v ∧ Rp K H d v := by
  unfold atI at e ⊢
  rw [h.length]
  cases q : ixN ds.length i with
  | none => rw [q] at e; cases e
  | some j =>
    rw [q] at e
    exact h.get e
theorem rsO_run {Z : Wh} {H0 H : Hp} {o : Option D} {Q : VK} (p : PostE Z H0 H (rsO o) Q) : ∃ b, o = some b ∧ PostE Z H0 H (.ok b) Q := by
  cases o with
  | none => exact p.elim
  | some b => exact ⟨b, rfl, p⟩
theorem os_ix : OpS (zOf X E) (rIx X.K) opIx := by
  intro H0 H x y a b Q s ra rb p
  cases b with
  | int i =>
    cases (show y = .int i from rb)
    cases a with
    | list ds =>
      obtain ⟨d, e, q⟩ := rsO_run p
      obtain ⟨l, vs, rfl, h1, h2⟩ := ra
      obtain ⟨v, ev, rv⟩ := h2.at e
      exact .inl ⟨l, vs, i, v, rfl, rfl, s.seq h1, ev, q.now s rv⟩
    | tuple ds =>
      obtain ⟨d, e, q⟩ := rsO_run p
      obtain ⟨l, vs, rfl, h1, h2⟩ := ra
      obtain ⟨v, ev, rv⟩ := h2.at e
      exact .inr (.inl ⟨l, vs, i, v, rfl, rfl, sqt_same s h1, ev, q.now s rv⟩)
    | str z =>
      cases (show x = .str z from ra)
      simp only [opIx] at p
      by_cases c : z.length ≤ 100000
      · rw [if_pos c] at p
        obtain ⟨d, e, q⟩ := rsO_run p
        obtain ⟨c', ec, rfl⟩ := Option.map_eq_some_iff.mp e
        exact .inr (.inr ⟨z, i, c', rfl, rfl, sz5 c, ec, q.now s rfl⟩)
      · rw [if_neg c] at p; exact p.elim
    | _ => exact p.elim
  | _ => cases a <;> exact p.elim
/-! built-in calls -/
theorem RpL.one {K : PySem.W.Frag} {H : Hp} {d : D} {vs : List V} (h : RpL K H [d] vs) : ∃ v, vs = [v] ∧ Rp K H d v := by
  obtain ⟨v, r, rfl, h1, h2⟩ := h
  cases h2
  exact ⟨v, rfl, h1⟩
theorem RpL.two {K : PySem.W.Frag} {H : Hp} {d e : D} {vs : List V} (h : RpL K H [d, e] vs) : ∃ v w, vs = [v, w] ∧ Rp K H d v ∧ Rp K H e w := by
  obtain ⟨v, r, rfl, h1, h2⟩ := h
  obtain ⟨w, rfl, h3⟩ := h2.one
  exact ⟨v, w, rfl, h1, h3⟩
abbrev rLen1 (K : PySem.W.Frag) : List V → Hp → VK → Prop := fun xs H Q => (∃ p ys, xs = [.ref p] ∧ (SqL K H p ys ∨ SqT K H p ys) ∧ Q (.int ys.length) H) ∨ ∃ z, xs = [.str z] ∧ z.length ≤ sizeLine ∧ Q (.int z.length) H
theorem ox_len : CallR X (.builtin "len") (rLen1 X.K) := call_len_seq.or call_len_str
theorem os_len : CaS (zOf X E) (rLen1 X.K) opLen := by
  intro H0 H xs as Q s r p
  match as, p with
  | [.list ds], p =>
    obtain ⟨v, rfl, l, vs, rfl, h1, h2⟩ := r.one
    exact .inl ⟨l, vs, rfl, .inl (s.seq h1), by rw [h2.length]; exact PostE.now (d := .int ds.length) s p rfl⟩
  | [.tuple ds], p =>
    obtain ⟨v, rfl, l, vs, rfl, h1, h2⟩ := r.one
    exact .inl ⟨l, vs, rfl, .inr (sqt_same s h1), by rw [h2.length]; exact PostE.now (d := .int ds.length) s p rfl⟩
  | [.str z], p =>
    obtain ⟨v, rfl, rfl⟩ := r.one
    simp only [opLen] at p
    by_cases c : z.length ≤ 100000
    · rw [if_pos c] at p
      exact .inr ⟨z, rfl, sz5 c, PostE.now (d := .int z.length) s p rfl⟩
    · rw [if_neg c] at p; exact p.elim
  | [], p => exact p.elim
  | [.none], p => exact p.elim
  | [.bool _], p => exact p.elim
  | [.int _], p => exact p.elim
  | [.dict _], p => exact p.elim
  | _ :: _ :: _, p => simp only [opLen] at p; exact p.elim
abbrev rMin1 (K : PySem.W.Frag) : List V → Hp → VK → Prop := fun xs H Q => rMin K xs H Q ∨ ∃ i j, xs = [.int i, .int j] ∧ Q (.int (if j < i then j else i)) H
theorem ox_min (hc : X.calm = true) : CallR X (.builtin "min") (rMin1 X.K) := (cr_min hc).or (call_min2 hc)
theorem os_min : CaS (zOf X E) (rMin1 X.K) opMin := by
  intro H0 H xs as Q s r p
  unfold opMin at p
  split at p
  · rename_i ds
    cases e : intsOf ds with
    | none => rw [e] at p; exact p.elim
    | some ns =>
      rw [e] at p
      cases ns with
      | nil => exact p.elim
      | cons n ns =>
        obtain ⟨v, rfl, l, vs, rfl, h1, h2⟩ := r.one
        have e' := intsOf_some e
        subst e'
        have ev := h2.ints
        subst ev
        refine .inl ⟨l, n :: ns, rfl, s.seq h1, Nat.succ_pos _, fun m hm hl => ?_⟩
        rw [minL_eq hm fun y hy => hl y hy]
        exact PostE.now (d := .int _) s p rfl
  · rename_i i j
    obtain ⟨v, w, rfl, rfl, rfl⟩ := r.two
    exact .inr ⟨i, j, rfl, PostE.now s p rfl⟩
  · exact p.elim
theorem os_max : CaS (zOf X E) (fun xs H Q => ∃ i j, xs = [.int i, .int j] ∧ Q (.int (if j > i then j else i)) H) opMax := by
  intro H0 H xs as Q s r p
  unfold opMax at p
  split at p
  · rename_i i j
    obtain ⟨v, w, rfl, rfl, rfl⟩ := r.two
    exact ⟨i, j, rfl, PostE.now s p rfl⟩
  · exact p.elim
theorem rsI_run {Z : Wh} {H0 H : Hp} {o : Option Int} {Q : VK} (s : Same H0 H) (p : PostE Z H0 H (rsI o) Q) : ∃ b, o = some b ∧ Q (.int b) H := by
  cases o with
  | none => exact p.elim
  | some b => exact ⟨b, rfl, PostE.now (d := .int b) s p rfl⟩
theorem os_sum : CaS (zOf X E) (rSum X.K) opSum := by
  intro H0 H xs as Q s r p
  unfold opSum at p
  split at p
  · rename_i ds
    obtain ⟨b, e, q⟩ := rsI_run s p
    obtain ⟨ns, e9, rfl⟩ := Option.map_eq_some_iff.mp e
    obtain ⟨v, rfl, l, vs, rfl, h1, h2⟩ := r.one
    have e' := intsOf_some e9
    subst e'
    have ev := h2.ints
    subst ev
    exact ⟨l, ns, rfl, s.seq h1, q⟩
  · exact p.elim
theorem os_all : CaS (zOf X E) (rAll X.K) opAll := by
  intro H0 H xs as Q s r p
  unfold opAll at p
  split at p
  · rename_i ds
    obtain ⟨b, e, q⟩ := rsB_run s p
    obtain ⟨ns, e9, rfl⟩ := Option.map_eq_some_iff.mp e
    obtain ⟨v, rfl, l, vs, rfl, h1, h2⟩ := r.one
    have e' := boolsOf_some e9
    subst e'
    have ev := h2.bls
    subst ev
    exact ⟨l, ns, rfl, s.seq h1, q⟩
  · exact p.elim
theorem os_int : CaS (zOf X E) (fun xs H Q => (∃ i, xs = [.int i] ∧ Q (.int i) H) ∨ ∃ k, xs = [.bl k] ∧ Q (.int (if k then 1 else 0)) H) opInt := by
  intro H0 H xs as Q s r p
  unfold opInt at p
  split at p
  · rename_i i
    obtain ⟨v, rfl, rfl⟩ := r.one
    exact .inl ⟨i, rfl, PostE.now (d := .int i) s p rfl⟩
  · rename_i i
    obtain ⟨v, rfl, rfl⟩ := r.one
    exact .inr ⟨i, rfl, PostE.now (d := .int _) s p rfl⟩
  · exact p.elim
theorem oo_list : CaO (zOf X E) (fun xs H Q => ∃ p ys, xs = [.ref p] ∧ (SqL X.K H p ys ∨ SqT X.K H p ys) ∧ ∀ l, H l = none → Q (.ref l) (upd H l (.lst ys))) opList := by
  intro H0 H xs as Q s r p
  unfold opList at p
  split at p
  · rename_i ds
    obtain ⟨v, rfl, l, vs, rfl, h1, h2⟩ := r.one
    exact ⟨l, vs, rfl, .inl (s.seq h1), fun t nt => p t _ _ (Ex2.out s nt _) nt (s.free nt) (.inl ⟨_, _, rfl, upd_same, h2⟩)⟩
  · rename_i ds
    obtain ⟨v, rfl, l, vs, rfl, h1, h2⟩ := r.one
    exact ⟨l, vs, rfl, .inr (sqt_same s h1), fun t nt => p t _ _ (Ex2.out s nt _) nt (s.free nt) (.inl ⟨_, _, rfl, upd_same, h2⟩)⟩
  · exact p.elim
end
/-! isinstance against a built-in type -/
theorem kit7 : ∀ T ∈ (["int", "bool", "str", "list", "tuple"] : List String), ∀ t ∈ (["NoneType", "bool", "int", "str", "list", "tuple", "dict"] : List String), kitB t T = some (t == T || (t == "bool" && T == "int")) := by decide +kernel
theorem isiB_eq (T : String) (d : D) (hT : T ∈ (["int", "bool", "str", "list", "tuple"] : List String)) : kitB (tyN d) T = some (isiB T d) := by
  have h := kit7 T hT (tyN d) (by cases d <;> simp [tyN])
  rw [h]
  simp only [List.mem_cons, List.not_mem_nil, or_false] at hT
  rcases hT with rfl | rfl | rfl | rfl | rfl <;> cases d <;> rfl
theorem tyx_of {K : PySem.W.Frag} {H : Hp} {d : D} {x : V} (nd : ∀ k, d ≠ .dict k) (r : Rp K H d x) : TyX K H x (.type (tyN d)) := by
  cases d with
  | none => cases r; exact .base .non
  | bool b => cases r; exact .base (.bl b)
  | int b => cases r; exact .base (.int b)
  | str b => cases r; exact .base (.str b)
  | list b =>
    obtain ⟨a, vs, rfl, h, _⟩ := r
    rcases h with (h | ⟨o, h⟩) | ⟨o, its, n, hk, hc, _⟩
    · exact .base (.lst h)
    · exact .base (.frz h)
    · exact .kList hk hc
  | tuple b =>
    obtain ⟨a, vs, rfl, h, _⟩ := r
    rcases h with (h | ⟨o, h⟩) | ⟨o, its, n, hk, hc, _⟩
    · exact .base (.tup h)
    · exact .fTuple h
    · exact .kTuple hk hc
  | dict b => exact absurd rfl (nd b)
section
variable {X : Cx} {E : XK} {e o : Expr} {es : List Expr} {fe fo : Ev → Rs D} {fr : Ev → Rs (List D)} {pos p p2 : Pos}
theorem se_isi {T : String} {x2 : Str} (h : SE X E e fe) (hm : X.mg "isinstance" = none) (hm2 : X.mg x2 = none) (hT : T ∈ (["int", "bool", "str", "list", "tuple"] : List String)) (hv : bootBuiltins "isinstance" = some (.builtin "isinstance")) (hv2 : bootBuiltins x2 = some (.type T))
    (hg : Gl X "isinstance" := by rfl) (hg2 : Gl X x2 := by rfl) (hn : x2 ≠ "__name__" := by decide) (hdb : (x2 == ("__debug__" : Str)) = false := by decide)
    (he : starEach [e, .Name x2 p2] X.env = (false, eval e X.env) :: starEach [.Name x2 p2] X.env := by rfl) (he2 : starEach [.Name x2 p2] X.env = (false, eval (.Name x2 p2) X.env) :: starEach [] X.env := by rfl)
    (hpl : (backTo pos (starEach [.Name x2 p2] X.env)).any (·.1) = false := by rfl) :
    SE X E (.Call (.Name "isinstance" p) [e, .Name x2 p2] [] pos) (e1 (opIsi T) fe) := by
  have A : PA X [e, .Name x2 p2] (tCons (tE (zOf X E) fe) (tCons (tC (.ty T)) tNil)) := pa_cons h (pa_cons (pe_bltn (v := .ty T) hg2 hm2 hv2 rfl hn hdb) pa_nil he2) he
  refine PE.weak (pe_callB call_isi hg hm hv A (he := he) (hpl := hpl)) fun σ H Q q => ?_
  obtain ⟨H0, ev, s, rv, q⟩ := q
  refine ⟨H0, ev, s, rv, ?_⟩
  unfold e1 at q
  cases ea : fe ev with
  | bad => rw [ea] at q; exact q
  | exc x => rw [ea] at q; exact q
  | ok d =>
    rw [ea] at q
    intro v H1 H' x1 r1
    have nd : ∀ k, d ≠ .dict k := fun k z => by subst z; exact q.elim
    have q' : PostE (zOf X E) H0 H (.ok (.bool (isiB T d))) Q := by cases d <;> first | exact q | exact absurd rfl (nd _)
    exact ⟨v, .ty T, .type (tyN d), .type T, isiB T d, rfl, .ty T, tyx_of nd (r1.mono x1.c), kit_ty (isiB_eq T d hT), PostE.now (d := .bool _) x1.c (q'.step x1) rfl⟩
/-! slices -/
def pO (Z : Wh) (fo : Ev → Rs (Option Int)) : TO := fun σ H Q => ∃ H0 ev, Same H0 H ∧ RpV Z.K H0 σ ev ∧ (match fo ev with
  | .ok o => ∀ H', Same H H' → Q o H'
  | .exc x => ∀ H', Same H H' → EX Z.mg Z.E x H'
  | .bad => False)
def oN : Ev → Rs (Option Int) := fun _ => .ok none
def asI : D → Rs (Option Int)
  | .int i => .ok (some i)
  | _ => .bad
def oS (fe : Ev → Rs D) : Ev → Rs (Option Int) := fun ev => (fe ev).bind asI
theorem PO.weak {oe : Option Expr} {t t' : TO} (h : PO X oe t) (w : ∀ σ H Q, t' σ H Q → t σ H Q) : PO X oe t' := by
  obtain ⟨h⟩ := h
  first
    | exact ⟨fun pins s σ H Q I q => h pins s σ H Q I (w σ H Q q)⟩
    | exact ⟨fun pins s σ H Q E I q => h pins s σ H Q E I (w σ H Q q)⟩
theorem so_n : PO X none (pO (zOf X E) oN) := PO.weak po_none fun σ H Q ⟨H0, ev, s, rv, q⟩ => q H (Same.refl _)
theorem so_s (h : SE X E e fe) : PO X (some e) (pO (zOf X E) (oS fe)) := by
  refine PO.weak (po_some h) fun σ H Q q => ?_
  obtain ⟨H0, ev, s, rv, q⟩ := q
  refine ⟨H0, ev, s, rv, ?_⟩
  unfold oS at q
  cases ea : fe ev with
  | bad => rw [ea] at q; exact q
  | exc x => rw [ea] at q; exact q
  | ok d =>
    rw [ea] at q
    intro v H1 H' x1 r1
    cases d with
    | int i => exact ⟨i, r1, q H' x1.b⟩
    | _ => exact q.elim
def eSl (op : D → Option Int → Option Int → Rs D) (fe : Ev → Rs D) (fl fh : Ev → Rs (Option Int)) : Ev → Rs D := fun ev => (fe ev).bind fun a => (fl ev).bind fun l => (fh ev).bind fun h => op a l h
theorem sl_of {Z : Wh} {fl fh : Ev → Rs (Option Int)} {op : D → Option Int → Option Int → Rs D} {r : V → Option Int → Option Int → Hp → VK → Prop} {σ : L2.St} {H : Hp} {Q : VK} {P : Hp → Hp → Rs D → Prop} (h : ∃ H0 ev, Same H0 H ∧ RpV Z.K H0 σ ev ∧ P H0 H (eSl op fe fl fh ev))
    (step : ∀ H0 H H0' H' r, Ex2 H0 H H0' H' → P H0 H r → P H0' H' r) (hexc : ∀ H0 H x, P H0 H (.exc x) → ∀ H', Same H H' → EX Z.mg Z.E x H') (hbad : ∀ H0 H, ¬ P H0 H .bad)
    (fin : ∀ H0 H x a lo hi, Same H0 H → Rp Z.K H0 a x → P H0 H (op a lo hi) → r x lo hi H Q) : tSl r (tE Z fe) (pO Z fl) (pO Z fh) σ H Q := by
  obtain ⟨H0, ev, s, rv, p⟩ := h
  refine ⟨H0, ev, s, rv, ?_⟩
  unfold eSl at p
  cases ea : fe ev with
  | bad => rw [ea] at p; exact (hbad _ _ p).elim
  | exc x => rw [ea] at p; exact hexc _ _ _ p
  | ok a =>
    rw [ea] at p
    intro v H1 H' x1 r1
    have p := step _ _ _ _ _ x1 p
    simp only [Rs.ok_bind] at p
    refine ⟨H1, ev, x1.c, rv.mono x1.a, ?_⟩
    cases eb : fl ev with
    | bad => rw [eb] at p; exact (hbad _ _ p).elim
    | exc x => rw [eb] at p; exact hexc _ _ _ p
    | ok lo =>
      rw [eb] at p
      intro H2 s2
      have x2 : Ex2 H1 H' H1 H2 := ⟨Same.refl _, s2, x1.c.trans s2, fun _ _ _ => rfl⟩
      have p := step _ _ _ _ _ x2 p
      simp only [Rs.ok_bind] at p
      refine ⟨H1, ev, x2.c, rv.mono x1.a, ?_⟩
      cases ec : fh ev with
      | bad => rw [ec] at p; exact (hbad _ _ p).elim
      | exc x => rw [ec] at p; exact hexc _ _ _ p
      | ok hi =>
        rw [ec] at p
        intro H3 s3
        have x3 : Ex2 H1 H2 H1 H3 := ⟨Same.refl _, s3, x2.c.trans s3, fun _ _ _ => rfl⟩
        exact fin H1 H3 v a lo hi x3.c r1 (step _ _ _ _ _ x3 p)
theorem se_slS {lo hi : Option Expr} {fl fh : Ev → Rs (Option Int)} (he : SE X E e fe) (hl : PO X lo (pO (zOf X E) fl)) (hh : PO X hi (pO (zOf X E) fh)) : SE X E (.Subscript e (.Slice lo hi none p2) pos) (eSl opSlS fe fl fh) := by
  refine PE.weak (pe_slice sl_str he hl hh) fun σ H Q q => ?_
  refine sl_of (P := fun H0 H r => PostE (zOf X E) H0 H r Q) q (fun _ _ _ _ _ x p => p.step x) (fun _ _ _ p => p) (fun _ _ p => p) fun H0 H x a lo hi s ra p => ?_
  cases a <;> first | exact p.elim | skip
  case str z =>
    simp only [opSlS] at p
    by_cases c : z.length ≤ 100000
    · rw [if_pos c] at p
      exact ⟨z, ra, sz5 c, PostE.now (d := .str _) s p rfl⟩
    · rw [if_neg c] at p; exact p.elim
theorem so_slL {lo hi : Option Expr} {fl fh : Ev → Rs (Option Int)} (he : SE X E e fe) (hl : PO X lo (pO (zOf X E) fl)) (hh : PO X hi (pO (zOf X E) fh)) : SO X E (.Subscript e (.Slice lo hi none p2) pos) (eSl opSlL fe fl fh) := by
  refine PE.weak (pe_slice sl_list he hl hh) fun σ H Q q => ?_
  refine sl_of (P := fun H0 H r => PostO (zOf X E) H0 H r Q) q (fun _ _ _ _ _ x p => p.step x) (fun _ _ _ p => p) (fun _ _ p => p) fun H0 H x a lo hi s ra p => ?_
  cases a <;> first | exact p.elim | skip
  case list ds =>
    obtain ⟨l, vs, rfl, h1, h2⟩ := ra
    refine ⟨l, vs, rfl, s.seq h1, fun t nt => ?_⟩
    refine p t _ _ (Ex2.out s nt _) nt (s.free nt) (.inl ⟨_, _, rfl, upd_same, ?_⟩)
    unfold cutD cutV
    rw [← h2.length]
    exact (h2.drop _).take _
/-! a method of a list -/
theorem findI_some {α : Type} {p : α → Bool} : ∀ {l : List α} {j : Nat}, findI p l = some j → (∃ z, l[j]? = some z ∧ p z = true) ∧ ∀ (m : Nat) (z : α), m < j → l[m]? = some z → p z = false
  | [], j, h => by simp [findI] at h
  | x :: r, j, h => by
    unfold findI at h
    by_cases c : p x = true
    · rw [if_pos c] at h
      cases h
      exact ⟨⟨x, rfl, c⟩, fun m z hm => absurd hm (Nat.not_lt_zero m)⟩
    · rw [if_neg c] at h
      obtain ⟨k, e, rfl⟩ := Option.map_eq_some_iff.mp h
      obtain ⟨⟨z, h1, h2⟩, h3⟩ := findI_some e
      refine ⟨⟨z, h1, h2⟩, fun m z' hm hz => ?_⟩
      cases m with
      | zero =>
        cases (show x = z' from Option.some.inj hz)
        exact Bool.eq_false_iff.mpr c
      | succ m => exact h3 m z' (Nat.lt_of_succ_lt_succ hm) hz
theorem ixB_run {K : PySem.W.Frag} {H0 : Hp} {a : D} {x : V} {ds : List D} {vs : List V} {j : Nat} (ra : Rp K H0 a x) (rl : RpL K H0 ds vs) (h : ixB a ds = some j) :
    flatV x = true ∧ vs.all flatV = true ∧ (∃ z, vs[j]? = some z ∧ eqV z x = true) ∧ ∀ (m : Nat) (z' : V), m < j → vs[m]? = some z' → eqV z' x = false := by
  cases a with
  | int i =>
    obtain ⟨ns, e, h9⟩ := Option.bind_eq_some_iff.mp (show (intsOf ds).bind (fun ns => findI (fun x => decide (x = i)) ns) = some j from h)
    have := intsOf_some e
    subst this
    have ev := rl.ints
    subst ev
    cases (show x = .int i from ra)
    obtain ⟨⟨z, h1, h2⟩, h3⟩ := findI_some h9
    refine ⟨rfl, all_flatI _, ⟨.int z, by rw [List.getElem?_map, h1]; rfl, ?_⟩, fun m z' hm hz => ?_⟩
    · have e2 := of_decide_eq_true h2
      subst e2
      simp [eqV]
    · rw [List.getElem?_map] at hz
      obtain ⟨y, hy, rfl⟩ := Option.map_eq_some_iff.mp hz
      have := of_decide_eq_false (h3 m y hm hy)
      simp [eqV, this]
  | str i =>
    obtain ⟨ns, e, h9⟩ := Option.bind_eq_some_iff.mp (show (strsOf ds).bind (fun ns => findI (fun x => decide (x = i)) ns) = some j from h)
    have := strsOf_some e
    subst this
    have ev := rl.strs
    subst ev
    cases (show x = .str i from ra)
    obtain ⟨⟨z, h1, h2⟩, h3⟩ := findI_some h9
    refine ⟨rfl, all_flatS _, ⟨.str z, by rw [List.getElem?_map, h1]; rfl, ?_⟩, fun m z' hm hz => ?_⟩
    · have e2 := of_decide_eq_true h2
      subst e2
      simp [eqV]
    · rw [List.getElem?_map] at hz
      obtain ⟨y, hy, rfl⟩ := Option.map_eq_some_iff.mp hz
      have := of_decide_eq_false (h3 m y hm hy)
      simp [eqV, this]
  | bool i =>
    obtain ⟨ns, e, h9⟩ := Option.bind_eq_some_iff.mp (show (boolsOf ds).bind (fun ns => findI (fun y => y == i) ns) = some j from h)
    have := boolsOf_some e
    subst this
    have ev := rl.bls
    subst ev
    cases (show x = .bl i from ra)
    obtain ⟨⟨z, h1, h2⟩, h3⟩ := findI_some h9
    refine ⟨rfl, all_flatB _, ⟨.bl z, by rw [List.getElem?_map, h1]; rfl, h2⟩, fun m z' hm hz => ?_⟩
    rw [List.getElem?_map] at hz
    obtain ⟨y, hy, rfl⟩ := Option.map_eq_some_iff.mp hz
    exact h3 m y hm hy
  | none => cases h
  | list _ => cases h
  | tuple _ => cases h
  | dict _ => cases h
def lstB {α : Type} (d : D) (k : List D → Rs α) : Rs α := match d with
  | .list ds => k ds
  | _ => .bad
def eIndex (fo : Ev → Rs D) (fr : Ev → Rs (List D)) : Ev → Rs D := fun ev => (fo ev).bind fun a => lstB a fun ds => (fr ev).bind fun r => opIndex ds r
theorem rsN_run {Z : Wh} {H0 H : Hp} {o : Option Nat} {Q : VK} (s : Same H0 H) (p : PostE Z H0 H (rsN o) Q) : ∃ b : Nat, o = some b ∧ Q (.int b) H := by
  cases o with
  | none => exact p.elim
  | some b => exact ⟨b, rfl, PostE.now (d := .int b) s p rfl⟩
theorem se_index {apos : Pos} (ho : SE X E o fo) (ha : SA X E (e :: es) fr)
    (hbase : attributeBase o "index" X.env (eval o X.env) = eval o X.env := by rfl)
    (hfew : ((backTo pos (starEach (e :: es) X.env)).all (fun x => !x.1) && (backToKw pos (keywordEach [] X.env)).all (fun x => x.1.isSome)
      && decide ((e :: es).length + ([] : List Keyword).length + (if ([] : List Keyword).isEmpty then 0 else 1) < 30)) = true := by rfl)
    (hline : (apos.endLine == pos.line) = true := by rfl) (hs : starEach (e :: es) X.env = (false, eval e X.env) :: starEach es X.env := by rfl) (hplain : (backTo pos (starEach es X.env)).any (·.1) = false := by rfl) :
    SE X E (.Call (.Attribute o "index" apos) (e :: es) [] pos) (eIndex fo fr) := by
  refine PE.weak (pe_bm PySem.F.plainAttrs_list PySem.F.slot_list_index PySem.F.type_list_index mt_index ho ha hbase hfew hline hs hplain) fun σ H Q q => ?_
  obtain ⟨H0, ev, s, rv, p⟩ := q
  refine ⟨H0, ev, s, rv, ?_⟩
  unfold eIndex at p
  cases ea : fo ev with
  | bad => rw [ea] at p; exact p
  | exc x => rw [ea] at p; exact p
  | ok d =>
    rw [ea] at p
    intro v H1 H' x1 r1
    cases d with
    | list ds =>
      obtain ⟨l, vs, rfl, h1, h2⟩ := r1
      refine ⟨.inl ⟨rfl, vs, x1.c.seq h1⟩, ?_⟩
      refine ⟨H1, ev, x1.c, rv.mono x1.a, ?_⟩
      have p := p.step x1
      simp only [Rs.ok_bind, lstB] at p
      cases eb : fr ev with
      | bad => rw [eb] at p; exact p
      | exc x => rw [eb] at p; exact p
      | ok as =>
        rw [eb] at p
        intro ws H2 H'' x2 r2
        have p := p.step x2
        simp only [Rs.ok_bind] at p
        unfold opIndex at p
        split at p
        · rename_i d
          obtain ⟨j, ej, q⟩ := rsN_run x2.c p
          obtain ⟨w', rfl, rw'⟩ := r2.one
          obtain ⟨f1, f2, ⟨z, z1, z2⟩, f3⟩ := ixB_run rw' (h2.mono x2.a) ej
          exact ⟨l, vs, w', j, z, rfl, rfl, (x1.c.trans x2.b).seq h1, f1, f2, z1, z2, f3, q⟩
        · exact p.elim
    | _ => exact p.elim
end
end Sk

namespace Sk
open PySem PySem.Spec PyProof.Rows L2
/-- the locals: not known, shared data, a list or dict that this def alone holds, a list of lists that it alone holds -/
inductive Sl where
  | un | sh (d : D) | ow (d : D) | on (dss : List (List D))
abbrev SEnv := List Sl
def onD (dss : List (List D)) : D := .list (dss.map .list)
def Sl.hid : Sl → Option D
  | .sh d => some d
  | .ow _ => none
  | .on _ => none
  | .un => none
def Sl.all : Sl → Option D
  | .sh d => some d
  | .ow d => some d
  | .on dss => some (onD dss)
  | .un => none
def Sl.frz : Sl → Sl
  | .ow d => .sh d
  | .sh d => .sh d
  | .on dss => .sh (onD dss)
  | .un => .un
def hidV (env : SEnv) : Ev := env.map Sl.hid
def allV (env : SEnv) : Ev := env.map Sl.all
def frzV (env : SEnv) : SEnv := env.map Sl.frz
theorem hid_frz (env : SEnv) : hidV (frzV env) = allV env := by
  unfold hidV frzV allV
  rw [List.map_map]
  refine List.map_congr_left fun s _ => ?_
  cases s <;> rfl
/-- the inner lists -/
def NsL (K : PySem.W.Frag) (H0 H : Hp) : List (List D) → List Addr → Prop
  | [], qs => qs = []
  | ds :: r, qs => ∃ q t, qs = q :: t ∧ (∃ vs, H q = some (.lst vs) ∧ RpL K H0 ds vs) ∧ NsL K H0 H r t
structure OwN (K : PySem.W.Frag) (H0 H : Hp) (dss : List (List D)) (p : Addr) (ps : List Addr) : Prop where
  o : H p = some (.lst (ps.map V.ref))
  nd : (p :: ps).Nodup
  it : NsL K H0 H dss ps
section
variable {K : PySem.W.Frag} {H0 H H0' H' : Hp}
theorem NsL.mono (s0 : Same H0 H0') (s : Same H H') : ∀ {dss : List (List D)} {ps : List Addr}, NsL K H0 H dss ps → NsL K H0' H' dss ps
  | [], ps, h => h
  | ds :: r, ps, h => by
    obtain ⟨q, t, e, ⟨vs, h1, h2⟩, h3⟩ := h
    exact ⟨q, t, e, ⟨vs, s _ _ h1, h2.mono s0⟩, NsL.mono s0 s h3⟩
theorem NsL.mem : ∀ {dss : List (List D)} {ps : List Addr}, NsL K H0 H dss ps → ∀ q ∈ ps, ∃ vs, H q = some (.lst vs)
  | [], ps, h, q, hq => by
    have h : ps = [] := h
    subst h; cases hq
  | ds :: r, ps, h, q, hq => by
    obtain ⟨q', t, rfl, ⟨vs, h1, h2⟩, h3⟩ := h
    rcases List.mem_cons.mp hq with rfl | hq
    · exact ⟨vs, h1⟩
    · exact NsL.mem h3 q hq
theorem NsL.len : ∀ {dss : List (List D)} {ps : List Addr}, NsL K H0 H dss ps → ps.length = dss.length
  | [], ps, h => by
    have h : ps = [] := h
    subst h; rfl
  | ds :: r, ps, h => by
    obtain ⟨q', t, rfl, _, h3⟩ := h
    simp only [List.length_cons, NsL.len h3]
theorem NsL.get : ∀ {dss : List (List D)} {ps : List Addr} {i : Nat} {ds : List D}, NsL K H0 H dss ps → dss[i]? = some ds → ∃ q vs, ps[i]? = some q ∧ H q = some (.lst vs) ∧ RpL K H0 ds vs
  | [], ps, i, ds, h, e => by simp at e
  | x :: r, ps, 0, ds, h, e => by
    obtain ⟨q, t, rfl, ⟨vs, h1, h2⟩, h3⟩ := h
    simp only [List.getElem?_cons_zero, Option.some.injEq] at e
    subst e
    exact ⟨q, vs, rfl, h1, h2⟩
  | x :: r, ps, i + 1, ds, h, e => by
    obtain ⟨q, t, rfl, _, h3⟩ := h
    exact NsL.get (i := i) h3 e
/-- what happens elsewhere -/
theorem NsL.stay : ∀ {dss : List (List D)} {ps : List Addr}, NsL K H0 H dss ps → (∀ q ∈ ps, H' q = H q) → NsL K H0 H' dss ps
  | [], ps, h, _ => h
  | x :: r, ps, h, e => by
    obtain ⟨q, t, rfl, ⟨vs, h1, h2⟩, h3⟩ := h
    exact ⟨q, t, rfl, ⟨vs, (e q List.mem_cons_self).trans h1, h2⟩, NsL.stay h3 fun y hy => e y (List.mem_cons_of_mem _ hy)⟩
theorem NsL.set : ∀ {dss : List (List D)} {ps : List Addr} {i : Nat} {q : Addr} {ds : List D} {vs : List V}, NsL K H0 H dss ps → ps.Nodup → ps[i]? = some q → RpL K H0 ds vs → NsL K H0 (upd H q (.lst vs)) (dss.set i ds) ps
  | [], ps, i, q, ds, vs, h, _, e, _ => by
    have h : ps = [] := h
    subst h; simp at e
  | x :: r, ps, 0, q, ds, vs, h, nd, e, hr => by
    obtain ⟨q', t, rfl, ⟨ws, h1, h2⟩, h3⟩ := h
    simp only [List.getElem?_cons_zero, Option.some.injEq] at e
    subst e
    refine ⟨q', t, rfl, ⟨vs, upd_same, hr⟩, NsL.stay h3 fun y hy => upd_ne fun z => ?_⟩
    subst z
    exact (List.nodup_cons.mp nd).1 hy
  | x :: r, ps, i + 1, q, ds, vs, h, nd, e, hr => by
    obtain ⟨q', t, rfl, ⟨ws, h1, h2⟩, h3⟩ := h
    simp only [List.getElem?_cons_succ] at e
    refine ⟨q', t, rfl, ⟨ws, ?_, h2⟩, NsL.set h3 (List.nodup_cons.mp nd).2 e hr⟩
    have hm := List.mem_of_getElem? e
    rw [upd_ne (fun z => by subst z; exact (List.nodup_cons.mp nd).1 hm)]
    exact h1
theorem NsL.rp : ∀ {dss : List (List D)} {ps : List Addr}, NsL K H0 H dss ps → Same H0 H0' → (∀ q ∈ ps, H0' q = H q) → RpL K H0' (dss.map .list) (ps.map V.ref)
  | [], ps, h, _, _ => by
    have h : ps = [] := h
    subst h; rfl
  | x :: r, ps, h, s, e => by
    obtain ⟨q, t, rfl, ⟨vs, h1, h2⟩, h3⟩ := h
    exact ⟨.ref q, t.map V.ref, rfl, ⟨q, vs, rfl, SqL.of ((e q List.mem_cons_self).trans h1), h2.mono s⟩, NsL.rp h3 s fun y hy => e y (List.mem_cons_of_mem _ hy)⟩
theorem OwN.mono {dss : List (List D)} {p : Addr} {ps : List Addr} (h : OwN K H0 H dss p ps) (s0 : Same H0 H0') (s : Same H H') : OwN K H0' H' dss p ps := ⟨s _ _ h.o, h.nd, h.it.mono s0 s⟩
theorem refs_inj {ps qs : List Addr} (h : ps.map V.ref = qs.map V.ref) : ps = qs := List.map_inj_right (fun a b e => by injection e) |>.mp h
end
/-- the objects that a slot's value holds -/
def Ft (H : Hp) : Sl → Option (Option V) → Addr → Prop
  | .ow _, v, b => v = some (some (.ref b))
  | .on _, v, b => ∃ p ps, v = some (some (.ref p)) ∧ H p = some (.lst (ps.map V.ref)) ∧ b ∈ p :: ps
  | .sh _, _, _ => False
  | .un, _, _ => False
structure Stt (K : PySem.W.Frag) (B0 B H0 H : Hp) (σ : L2.St) (env : SEnv) : Prop where
  x : Ex2 B0 B H0 H
  len : env.length = σ.length
  sh : ∀ (i : Nat) (d : D), env[i]? = some (.sh d) → ∃ v, σ[i]? = some (some v) ∧ Rp K H0 d v
  ow : ∀ (i : Nat) (d : D), env[i]? = some (.ow d) → ∃ p, σ[i]? = some (some (.ref p)) ∧ H0 p = none ∧ B p = none ∧ OwA K H0 H d p
  on : ∀ (i : Nat) (dss : List (List D)), env[i]? = some (.on dss) → ∃ p ps, σ[i]? = some (some (.ref p)) ∧ OwN K H0 H dss p ps ∧ ∀ q ∈ p :: ps, H0 q = none ∧ B q = none
  ne : ∀ (i j : Nat) (s t : Sl) (b : Addr), env[i]? = some s → env[j]? = some t → Ft H s σ[i]? b → Ft H t σ[j]? b → i = j
section
variable {K : PySem.W.Frag} {B0 B H0 H H0' H' : Hp} {σ : L2.St} {env : SEnv}
theorem OwA.mono {d : D} {p : Addr} (h : OwA K H0 H d p) (s0 : Same H0 H0') (s : Same H H') : OwA K H0' H' d p := by
  rcases h with ⟨ds, vs, rfl, e, r⟩ | ⟨ps, rfl, e⟩
  · exact .inl ⟨ds, vs, rfl, s _ _ e, r.mono s0⟩
  · exact .inr ⟨ps, rfl, s _ _ e⟩
theorem Stt.same (S : Stt K B0 B H0 H σ env) : Same H0 H := S.x.c
theorem Stt.hid (S : Stt K B0 B H0 H σ env) : RpV K H0 σ (hidV env) := by
  refine ⟨by unfold hidV; rw [List.length_map]; exact S.len, fun i d e => ?_⟩
  unfold hidV at e
  rw [List.getElem?_map] at e
  obtain ⟨s, hs, e⟩ := Option.map_eq_some_iff.mp e
  cases s with
  | sh d' => cases e; exact S.sh i _ hs
  | ow _ => cases e
  | on _ => cases e
  | un => cases e
/-- a slot's objects are there -/
theorem Stt.ft_some (S : Stt K B0 B H0 H σ env) {i : Nat} {s : Sl} {b : Addr} (hs : env[i]? = some s) (h : Ft H s σ[i]? b) : H0 b = none ∧ B b = none ∧ ((∃ vs, H b = some (.lst vs)) ∨ ∃ ps, H b = some (.dT (dkv ps))) := by
  cases s with
  | sh d => exact h.elim
  | un => exact h.elim
  | ow d =>
    obtain ⟨p, h1, h2, h3, h4⟩ := S.ow i d hs
    have h : σ[i]? = some (some (.ref b)) := h
    rw [h1] at h
    cases h
    refine ⟨h2, h3, ?_⟩
    rcases h4 with ⟨ds, vs, rfl, e, r⟩ | ⟨ps, rfl, e⟩
    · exact .inl ⟨_, e⟩
    · exact .inr ⟨_, e⟩
  | on dss =>
    obtain ⟨p, ps, h1, h2, h3⟩ := S.on i dss hs
    obtain ⟨p', ps', e1, e2, e3⟩ := h
    rw [h1] at e1
    cases e1
    have e4 := h2.o.symm.trans e2
    injection e4 with e4
    injection e4 with e4
    have := refs_inj e4
    subst this
    obtain ⟨n1, n2⟩ := h3 b e3
    refine ⟨n1, n2, .inl ?_⟩
    rcases List.mem_cons.mp e3 with rfl | e3
    · exact ⟨_, h2.o⟩
    · exact h2.it.mem b e3
theorem Stt.ft_back (S : Stt K B0 B H0 H σ env) (t : Same H H') {i : Nat} {s : Sl} {b : Addr} (hs : env[i]? = some s) (h : Ft H' s σ[i]? b) : Ft H s σ[i]? b := by
  cases s with
  | sh d => exact h
  | un => exact h
  | ow d => exact h
  | on dss =>
    obtain ⟨p, ps, h1, h2, h3⟩ := S.on i dss hs
    obtain ⟨p', ps', e1, e2, e3⟩ := h
    rw [h1] at e1
    cases e1
    have e4 := (t _ _ h2.o).symm.trans e2
    injection e4 with e4
    injection e4 with e4
    have := refs_inj e4
    subst this
    exact ⟨p, ps, h1, h2.o, e3⟩
theorem Stt.grow (S : Stt K B0 B H0 H σ env) (y : Ex2 H0 H H0' H') : Stt K B0 B H0' H' σ env := by
  refine ⟨S.x.trans y, S.len, fun i d e => ?_, fun i d e => ?_, fun i dss e => ?_, fun i j s t b hi hj f1 f2 => S.ne i j s t b hi hj (S.ft_back y.b hi f1) (S.ft_back y.b hj f2)⟩
  · obtain ⟨v, h1, h2⟩ := S.sh i d e
    exact ⟨v, h1, h2.mono y.a⟩
  · obtain ⟨p, h1, h2, h3, h4⟩ := S.ow i d e
    obtain ⟨o, ho⟩ := h4.some
    exact ⟨p, h1, (y.d p o ho).trans h2, h3, h4.mono y.a y.b⟩
  · obtain ⟨p, ps, h1, h2, h3⟩ := S.on i dss e
    refine ⟨p, ps, h1, h2.mono y.a y.b, fun q hq => ?_⟩
    obtain ⟨n1, n2⟩ := h3 q hq
    refine ⟨?_, n2⟩
    rcases List.mem_cons.mp hq with rfl | hq
    · exact (y.d q _ h2.o).trans n1
    · obtain ⟨vs, hv⟩ := h2.it.mem q hq
      exact (y.d q _ hv).trans n1
theorem Ex2.up (s : Same H0 H) (t : Same H H') : Ex2 H0 H H0 H' := ⟨Same.refl _, t, s.trans t, fun _ _ _ => rfl⟩
theorem Stt.up (S : Stt K B0 B H0 H σ env) (t : Same H H') : Stt K B0 B H0 H' σ env := S.grow (.up S.same t)
def Own (H : Hp) (σ : L2.St) (env : SEnv) (b : Addr) : Prop := ∃ (i : Nat) (s : Sl), env[i]? = some s ∧ Ft H s σ[i]? b
open Classical in
noncomputable def bor (H0 H : Hp) (σ : L2.St) (env : SEnv) : Hp := fun b => if Own H σ env b then H b else H0 b
open Classical in
/-- G without what is held (the held ones read in H) -/
noncomputable def cutO (G H : Hp) (σ : L2.St) (env : SEnv) : Hp := fun b => if Own H σ env b then none else G b
theorem bor_own {b : Addr} (h : Own H σ env b) : bor H0 H σ env b = H b := by unfold bor; rw [if_pos h]
theorem bor_not {b : Addr} (h : ¬ Own H σ env b) : bor H0 H σ env b = H0 b := by unfold bor; rw [if_neg h]
theorem cut_own {G : Hp} {b : Addr} (h : Own H σ env b) : cutO G H σ env b = none := by unfold cutO; rw [if_pos h]
theorem cut_not {G : Hp} {b : Addr} (h : ¬ Own H σ env b) : cutO G H σ env b = G b := by unfold cutO; rw [if_neg h]
theorem Stt.own (S : Stt K B0 B H0 H σ env) {b : Addr} (h : Own H σ env b) : H0 b = none ∧ B b = none ∧ ((∃ vs, H b = some (.lst vs)) ∨ ∃ ps, H b = some (.dT (dkv ps))) := by
  obtain ⟨i, s, e1, e2⟩ := h
  exact S.ft_some e1 e2
theorem Stt.own_some (S : Stt K B0 B H0 H σ env) {b : Addr} (h : Own H σ env b) : ∃ o, H b = some o := by
  rcases (S.own h).2.2 with ⟨vs, e⟩ | ⟨ps, e⟩
  · exact ⟨_, e⟩
  · exact ⟨_, e⟩
theorem Stt.not_own (S : Stt K B0 B H0 H σ env) {b : Addr} {o : HO} (h : H0 b = some o) : ¬ Own H σ env b := fun z => by
  have := (S.own z).1
  rw [this] at h; cases h
theorem Stt.s_bor (S : Stt K B0 B H0 H σ env) : Same H0 (bor H0 H σ env) := fun b o e => by rw [bor_not (S.not_own e)]; exact e
theorem Stt.bor_s (S : Stt K B0 B H0 H σ env) : Same (bor H0 H σ env) H := fun b o e => by
  by_cases c : Own H σ env b
  · rw [bor_own c] at e; exact e
  · rw [bor_not c] at e; exact S.same _ _ e
theorem frz_hid {env : SEnv} {i : Nat} {s : Sl} (e : (frzV env)[i]? = some s) (h : ∀ d, s ≠ .sh d) : s = .un := by
  unfold frzV at e
  rw [List.getElem?_map] at e
  obtain ⟨t, ht, rfl⟩ := Option.map_eq_some_iff.mp e
  cases t <;> first | rfl | exact absurd rfl (h _)
theorem Stt.frzAll (S : Stt K B0 B H0 H σ env) : Stt K B0 B (bor H0 H σ env) H σ (frzV env) := by
  refine ⟨⟨S.x.a.trans S.s_bor, S.x.b, S.bor_s, fun p o e => ?_⟩, by unfold frzV; rw [List.length_map]; exact S.len, fun i d e => ?_, fun i d e => Sl.noConfusion (frz_hid e fun _ z => Sl.noConfusion z), fun i d e => Sl.noConfusion (frz_hid e fun _ z => Sl.noConfusion z), fun i j s t b h _ f _ => ?_⟩
  · by_cases c : Own H σ env p
    · have := (S.own c).2.1
      rw [this] at e; cases e
    · rw [bor_not c]; exact S.x.d p o e
  · unfold frzV at e
    rw [List.getElem?_map] at e
    obtain ⟨s, hs, e⟩ := Option.map_eq_some_iff.mp e
    cases s with
    | sh d' =>
      cases e
      obtain ⟨v, h1, h2⟩ := S.sh i d hs
      exact ⟨v, h1, h2.mono S.s_bor⟩
    | ow d' =>
      cases e
      obtain ⟨p, h1, h2, h3, h4⟩ := S.ow i d hs
      obtain ⟨o, ho⟩ := h4.some
      exact ⟨.ref p, h1, h4.rp S.same ⟨o, by rw [bor_own ⟨i, _, hs, h1⟩]; exact ho, ho⟩ S.s_bor⟩
    | on dss =>
      cases e
      obtain ⟨p, ps, h1, h2, h3⟩ := S.on i dss hs
      have own : ∀ q ∈ p :: ps, bor H0 H σ env q = H q := fun q hq => bor_own ⟨i, _, hs, p, ps, h1, h2.o, hq⟩
      exact ⟨.ref p, h1, p, ps.map V.ref, rfl, SqL.of ((own p List.mem_cons_self).trans h2.o), h2.it.rp S.s_bor fun q hq => own q (List.mem_cons_of_mem _ hq)⟩
    | un => cases e
  · unfold frzV at h
    rw [List.getElem?_map] at h
    obtain ⟨t, ht, rfl⟩ := Option.map_eq_some_iff.mp h
    cases t <;> exact f.elim
theorem Stt.allv (S : Stt K B0 B H0 H σ env) : RpV K (bor H0 H σ env) σ (allV env) := by
  have h := S.frzAll.hid
  rw [hid_frz] at h
  exact h

/-! flat data: no list, no dict in it -/
mutual
def flat : D → Bool
  | .list _ => false
  | .dict _ => false
  | .tuple ds => flatL ds
  | .none => true
  | .bool _ => true
  | .int _ => true
  | .str _ => true
def flatL : List D → Bool
  | [] => true
  | d :: ds => flat d && flatL ds
end
mutual
theorem Rp.flat_of (h : ∀ (a : Addr) (vs : List V), Rd H a (.tup vs) → Rd H' a (.tup vs)) : ∀ {d : D} {v : V}, flat d = true → Rp K H d v → Rp K H' d v
  | .none, v, _, r => r
  | .bool _, v, _, r => r
  | .int _, v, _, r => r
  | .str _, v, _, r => r
  | .list _, v, f, r => by simp [flat] at f
  | .dict _, v, f, r => by simp [flat] at f
  | .tuple ds, v, f, r => by
    obtain ⟨a, vs, e, s, l⟩ := r
    refine ⟨a, vs, e, ?_, RpL.flat_of h (by simpa [flat] using f) l⟩
    rcases s with s | s
    · exact .inl (h _ _ s)
    · exact .inr s
theorem RpL.flat_of (h : ∀ (a : Addr) (vs : List V), Rd H a (.tup vs) → Rd H' a (.tup vs)) : ∀ {ds : List D} {vs : List V}, flatL ds = true → RpL K H ds vs → RpL K H' ds vs
  | [], vs, _, r => r
  | d :: ds, vs, f, r => by
    obtain ⟨v, w, e, h1, h2⟩ := r
    have f' : flat d = true ∧ flatL ds = true := by simpa [flatL] using f
    exact ⟨v, w, e, Rp.flat_of h f'.1 h1, RpL.flat_of h f'.2 h2⟩
end
/-- behind a reading of everything: the held ones are taken out of the base again -/
theorem Stt.back {Hb : Hp} (S : Stt K B0 B H0 H σ env) (y : Ex2 (bor H0 H σ env) H Hb H') :
    Ex2 H0 H (cutO Hb H σ env) H' ∧ ∀ (a : Addr) (vs : List V), Rd Hb a (.tup vs) → Rd (cutO Hb H σ env) a (.tup vs) := by
  have key : ∀ b, Own H σ env b → Hb b = H b := fun b c => by
    obtain ⟨o, ho⟩ := S.own_some c
    rw [y.d b o ho, bor_own c]
  refine ⟨⟨fun b o e => ?_, y.b, fun b o e => ?_, fun p o e => ?_⟩, fun a vs r => ?_⟩
  · rw [cut_not (S.not_own e)]
    exact y.a _ _ (S.s_bor _ _ e)
  · by_cases c : Own H σ env b
    · rw [cut_own c] at e; cases e
    · rw [cut_not c] at e; exact y.c _ _ e
  · by_cases c : Own H σ env p
    · rw [cut_own c]; exact ((S.own c).1).symm
    · rw [cut_not c, y.d p o e, bor_not c]
  · have no : ¬ Own H σ env a := fun c => by
      have hk := key a c
      rcases (S.own c).2.2 with ⟨ws, e⟩ | ⟨ps, e⟩
      · rw [e] at hk
        rcases r with r | ⟨o, r⟩
        · rw [hk] at r; cases r
        · rw [hk] at r; cases r
      · rw [e] at hk
        rcases r with r | ⟨o, r⟩
        · rw [hk] at r; cases r
        · rw [hk] at r; cases r
    rcases r with r | ⟨o, r⟩
    · exact .inl (by rw [cut_not no]; exact r)
    · exact .inr ⟨o, by rw [cut_not no]; exact r⟩
theorem get_set {α : Type} {l : List α} {i j : Nat} {a b : α} (h : (l.set i a)[j]? = some b) : (i = j ∧ j < l.length ∧ a = b) ∨ (i ≠ j ∧ l[j]? = some b) := by
  rw [List.getElem?_set] at h
  by_cases c : i = j
  · rw [if_pos c] at h
    by_cases c2 : i < l.length
    · rw [if_pos c2] at h
      exact .inl ⟨c, c ▸ c2, Option.some.inj h⟩
    · rw [if_neg c2] at h; cases h
  · rw [if_neg c] at h
    exact .inr ⟨c, h⟩
theorem Stt.set_sh (S : Stt K B0 B H0 H σ env) {d : D} {v : V} (i : Nat) (r : Rp K H0 d v) : Stt K B0 B H0 H (σ.set i (some v)) (env.set i (.sh d)) := by
  have keep : ∀ {j : Nat}, i ≠ j → (σ.set i (some v))[j]? = σ[j]? := fun h => List.getElem?_set_ne h
  refine ⟨S.x, by rw [List.length_set, List.length_set]; exact S.len, fun j e hj => ?_, fun j e hj => ?_, fun j e hj => ?_, fun j k s t b hj hk h1 h2 => ?_⟩
  · rcases get_set hj with ⟨rfl, hl, e1⟩ | ⟨hne, hj⟩
    · cases e1
      exact ⟨v, List.getElem?_set_self (by rw [← S.len]; exact hl), r⟩
    · rw [keep hne]; exact S.sh j e hj
  · rcases get_set hj with ⟨rfl, hl, e1⟩ | ⟨hne, hj⟩
    · cases e1
    · rw [keep hne]; exact S.ow j e hj
  · rcases get_set hj with ⟨rfl, hl, e1⟩ | ⟨hne, hj⟩
    · cases e1
    · rw [keep hne]; exact S.on j e hj
  · rcases get_set hj with ⟨rfl, hl, e1⟩ | ⟨hne, hj⟩
    · subst e1; exact h1.elim
    · rcases get_set hk with ⟨rfl, hl, e1⟩ | ⟨hne2, hk⟩
      · subst e1; exact h2.elim
      · rw [keep hne] at h1
        rw [keep hne2] at h2
        exact S.ne j k s t b hj hk h1 h2
theorem Stt.set_ow (S : Stt K B0 B H0 H σ env) (y : Ex2 H0 H H0' H') {d : D} {p : Addr} (i : Nat) (n : H p = none) (n0 : H0' p = none) (r : OwA K H0' H' d p) : Stt K B0 B H0' H' (σ.set i (some (.ref p))) (env.set i (.ow d)) := by
  have T := S.grow y
  have keep : ∀ {j : Nat}, i ≠ j → (σ.set i (some (.ref p)))[j]? = σ[j]? := fun h => List.getElem?_set_ne h
  have apart : ∀ (j : Nat) (s : Sl), env[j]? = some s → ¬ Ft H' s σ[j]? p := fun j s hj hp => by
    have h9 := (S.ft_some hj (S.ft_back y.b hj hp)).2.2
    rcases h9 with ⟨vs, e⟩ | ⟨ps, e⟩
    · rw [n] at e; cases e
    · rw [n] at e; cases e
  refine ⟨T.x, by rw [List.length_set, List.length_set]; exact S.len, fun j e hj => ?_, fun j e hj => ?_, fun j e hj => ?_, fun j k s t b hj hk h1 h2 => ?_⟩
  · rcases get_set hj with ⟨rfl, hl, e1⟩ | ⟨hne, hj⟩
    · cases e1
    · rw [keep hne]; exact T.sh j e hj
  · rcases get_set hj with ⟨rfl, hl, e1⟩ | ⟨hne, hj⟩
    · cases e1
      exact ⟨p, List.getElem?_set_self (by rw [← S.len]; exact hl), n0, S.x.b.free n, r⟩
    · rw [keep hne]; exact T.ow j e hj
  · rcases get_set hj with ⟨rfl, hl, e1⟩ | ⟨hne, hj⟩
    · cases e1
    · rw [keep hne]; exact T.on j e hj
  · rcases get_set hj with ⟨rfl, hl, e1⟩ | ⟨hne, hj⟩
    · rcases get_set hk with ⟨rfl, _, _⟩ | ⟨hne2, hk⟩
      · rfl
      · subst e1
        have h1 : (σ.set i (some (.ref p)))[i]? = some (some (.ref b)) := h1
        rw [List.getElem?_set_self (by rw [← S.len]; exact hl)] at h1
        cases h1
        rw [keep hne2] at h2
        exact (apart k t hk h2).elim
    · rcases get_set hk with ⟨rfl, hl, e1⟩ | ⟨hne2, hk⟩
      · subst e1
        have h2 : (σ.set i (some (.ref p)))[i]? = some (some (.ref b)) := h2
        rw [List.getElem?_set_self (by rw [← S.len]; exact hl)] at h2
        cases h2
        rw [keep hne] at h1
        exact (apart j s hj h1).elim
      · rw [keep hne] at h1
        rw [keep hne2] at h2
        exact T.ne j k s t b hj hk h1 h2
/-- a new list of lists goes into slot i -/
theorem Stt.set_on (S : Stt K B0 B H0 H σ env) (y : Ex2 H0 H H0' H') {dss : List (List D)} {p : Addr} {ps : List Addr} (i : Nat) (n : ∀ q ∈ p :: ps, H q = none ∧ H0' q = none) (r : OwN K H0' H' dss p ps) : Stt K B0 B H0' H' (σ.set i (some (.ref p))) (env.set i (.on dss)) := by
  have T := S.grow y
  have keep : ∀ {j : Nat}, i ≠ j → (σ.set i (some (.ref p)))[j]? = σ[j]? := fun h => List.getElem?_set_ne h
  have apart : ∀ (j : Nat) (s : Sl) (b : Addr), b ∈ p :: ps → env[j]? = some s → ¬ Ft H' s σ[j]? b := fun j s b hb hj hp => by
    have h9 := (S.ft_some hj (S.ft_back y.b hj hp)).2.2
    rcases h9 with ⟨vs, e⟩ | ⟨ps, e⟩
    · rw [(n b hb).1] at e; cases e
    · rw [(n b hb).1] at e; cases e
  have mine : ∀ {b : Addr} {v : Option (Option V)}, v = some (some (.ref p)) → Ft H' (.on dss) v b → b ∈ p :: ps := fun {b v} hv h => by
    obtain ⟨p', ps', e1, e2, e3⟩ := h
    rw [hv] at e1
    cases e1
    have e4 := r.o.symm.trans e2
    injection e4 with e4
    injection e4 with e4
    have := refs_inj e4
    subst this
    exact e3
  refine ⟨T.x, by rw [List.length_set, List.length_set]; exact S.len, fun j e hj => ?_, fun j e hj => ?_, fun j e hj => ?_, fun j k s t b hj hk h1 h2 => ?_⟩
  · rcases get_set hj with ⟨rfl, hl, e1⟩ | ⟨hne, hj⟩
    · cases e1
    · rw [keep hne]; exact T.sh j e hj
  · rcases get_set hj with ⟨rfl, hl, e1⟩ | ⟨hne, hj⟩
    · cases e1
    · rw [keep hne]; exact T.ow j e hj
  · rcases get_set hj with ⟨rfl, hl, e1⟩ | ⟨hne, hj⟩
    · cases e1
      exact ⟨p, ps, List.getElem?_set_self (by rw [← S.len]; exact hl), r, fun q hq => ⟨(n q hq).2, S.x.b.free (n q hq).1⟩⟩
    · rw [keep hne]; exact T.on j e hj
  · rcases get_set hj with ⟨rfl, hl, e1⟩ | ⟨hne, hj⟩
    · rcases get_set hk with ⟨rfl, _, _⟩ | ⟨hne2, hk⟩
      · rfl
      · subst e1
        have hb := mine (List.getElem?_set_self (by rw [← S.len]; exact hl)) h1
        rw [keep hne2] at h2
        exact (apart k t b hb hk h2).elim
    · rcases get_set hk with ⟨rfl, hl, e1⟩ | ⟨hne2, hk⟩
      · subst e1
        have hb := mine (List.getElem?_set_self (by rw [← S.len]; exact hl)) h2
        rw [keep hne] at h1
        exact (apart j s b hb hj h1).elim
      · rw [keep hne] at h1
        rw [keep hne2] at h2
        exact T.ne j k s t b hj hk h1 h2
/-- elsewhere than at an object of slot i nothing changes -/
theorem Stt.other (S : Stt K B0 B H0 H σ env) {i : Nat} {s : Sl} {q : Addr} {o : HO} (hi : env[i]? = some s) (hq : Ft H s σ[i]? q) {j : Nat} {t : Sl} (hij : i ≠ j) (hj : env[j]? = some t) :
    (∀ b, Ft H t σ[j]? b → b ≠ q) ∧ ∀ b, Ft (upd H q o) t σ[j]? b → Ft H t σ[j]? b := by
  have h1 : ∀ b, Ft H t σ[j]? b → b ≠ q := fun b hb z => hij (by subst z; exact S.ne i j s t b hi hj hq hb)
  refine ⟨h1, fun b hb => ?_⟩
  cases t with
  | sh d => exact hb
  | un => exact hb
  | ow d => exact hb
  | on dss =>
    obtain ⟨p, ps, e1, e2, e3⟩ := S.on j dss hj
    obtain ⟨p', ps', f1, f2, f3⟩ := hb
    rw [e1] at f1
    cases f1
    have ne : p ≠ q := h1 p ⟨p, ps, e1, e2.o, List.mem_cons_self⟩
    rw [upd_ne ne] at f2
    exact ⟨p, ps', e1, f2, f3⟩
/-- slot i's own object q is changed to o; what slot i stands for then is told by hs, hw, hn -/
theorem Stt.change (S : Stt K B0 B H0 H σ env) {i : Nat} {s s' : Sl} {q : Addr} {o : HO} (hi : env[i]? = some s) (hq : Ft H s σ[i]? q) (hs : ∀ d, s' ≠ .sh d)
    (hw : ∀ d, s' = .ow d → ∃ p, σ[i]? = some (some (.ref p)) ∧ H0 p = none ∧ B p = none ∧ OwA K H0 (upd H q o) d p)
    (hn : ∀ dss, s' = .on dss → ∃ p ps, σ[i]? = some (some (.ref p)) ∧ OwN K H0 (upd H q o) dss p ps ∧ ∀ q ∈ p :: ps, H0 q = none ∧ B q = none)
    (hf : ∀ b, Ft (upd H q o) s' σ[i]? b → Ft H s σ[i]? b) : Stt K B0 B H0 (upd H q o) σ (env.set i s') := by
  obtain ⟨n0, nB, _⟩ := S.ft_some hi hq
  refine ⟨⟨S.x.a, same_upd S.x.b nB o, same_upd S.same n0 o, S.x.d⟩, by rw [List.length_set]; exact S.len, fun j e hj => ?_, fun j e hj => ?_, fun j e hj => ?_, fun j k s1 t1 b hj hk a1 a2 => ?_⟩
  · rcases get_set hj with ⟨rfl, hl, e1⟩ | ⟨hne, hj⟩
    · exact absurd e1 (hs e)
    · exact S.sh j e hj
  · rcases get_set hj with ⟨rfl, hl, e1⟩ | ⟨hne, hj⟩
    · exact hw e e1
    · obtain ⟨u, g1, g2, g3, g4⟩ := S.ow j e hj
      have hup : u ≠ q := (S.other (o := o) hi hq hne hj).1 u g1
      refine ⟨u, g1, g2, g3, ?_⟩
      rcases g4 with ⟨ds, vs, rfl, e, r⟩ | ⟨ps, rfl, e⟩
      · exact .inl ⟨ds, vs, rfl, by rw [upd_ne hup]; exact e, r⟩
      · exact .inr ⟨ps, rfl, by rw [upd_ne hup]; exact e⟩
  · rcases get_set hj with ⟨rfl, hl, e1⟩ | ⟨hne, hj⟩
    · exact hn e e1
    · obtain ⟨p, ps, g1, g2, g3⟩ := S.on j e hj
      have hup : ∀ b ∈ p :: ps, b ≠ q := fun b hb => (S.other (o := o) hi hq hne hj).1 b ⟨p, ps, g1, g2.o, hb⟩
      exact ⟨p, ps, g1, ⟨by rw [upd_ne (hup p List.mem_cons_self)]; exact g2.o, g2.nd, g2.it.stay fun b hb => upd_ne (hup b (List.mem_cons_of_mem _ hb))⟩, g3⟩
  · have back : ∀ (j : Nat) (t : Sl), (env.set i s')[j]? = some t → Ft (upd H q o) t σ[j]? b → ∃ t', env[j]? = some t' ∧ Ft H t' σ[j]? b := fun j t hj hb => by
      rcases get_set hj with ⟨rfl, hl, e1⟩ | ⟨hne, hj⟩
      · subst e1; exact ⟨s, hi, hf b hb⟩
      · exact ⟨t, hj, (S.other hi hq hne hj).2 b hb⟩
    obtain ⟨t1', x1, x2⟩ := back j s1 hj a1
    obtain ⟨t2', y1, y2⟩ := back k t1 hk a2
    exact S.ne j k t1' t2' b x1 y1 x2 y2
/-- the held one in slot i is changed -/
theorem Stt.mut (S : Stt K B0 B H0 H σ env) {i : Nat} {d d' : D} {p : Addr} {o : HO} (hi : env[i]? = some (.ow d)) (hp : σ[i]? = some (some (.ref p))) (r : OwA K H0 (upd H p o) d' p) : Stt K B0 B H0 (upd H p o) σ (env.set i (.ow d')) := by
  obtain ⟨q, h1, h2, h3, h4⟩ := S.ow i d hi
  rw [h1] at hp
  cases hp
  exact S.change hi h1 (fun _ z => Sl.noConfusion z) (fun e he => by injection he with he; subst he; exact ⟨p, h1, h2, h3, r⟩) (fun _ z => Sl.noConfusion z) fun b hb => hb
end

/-! ### statements -/
inductive Fl where
  | nx (e : SEnv) | rt (d : D) | bk (e : SEnv) | ct (e : SEnv)
/-- how a def answers: with anything, with a new list or dict, with a new list of new lists -/
inductive Om where
  | e | o | n
def PostR (Z : Wh) (om : Om) (B0 B : Hp) (d : D) (rt : VK) : Prop := match om with
  | .o => ∀ p H0 H, Ex2 B0 B H0 H → B p = none → H0 p = none → OwA Z.K H0 H d p → rt (.ref p) H
  | .e => ∀ v H0 H, Ex2 B0 B H0 H → Rp Z.K H0 d v → rt v H
  | .n => ∃ dss, d = onD dss ∧ ∀ p ps H0 H, Ex2 B0 B H0 H → (∀ q ∈ p :: ps, B q = none ∧ H0 q = none) → OwN Z.K H0 H dss p ps → rt (.ref p) H
def PostS (Z : Wh) (om : Om) (B0 B : Hp) (r : Rs Fl) (Dn : Ends) : Prop := match r with
  | .ok (.nx env) => ∀ σ H0 H, Stt Z.K B0 B H0 H σ env → Dn.nx σ H
  | .ok (.bk env) => ∀ σ H0 H, Stt Z.K B0 B H0 H σ env → Dn.bk σ H
  | .ok (.ct env) => ∀ σ H0 H, Stt Z.K B0 B H0 H σ env → Dn.ct σ H
  | .ok (.rt d) => PostR Z om B0 B d Dn.rt
  | .exc x => ∀ H, Same B H → EX Z.mg Z.E x H
  | .bad => False
def tS (Z : Wh) (om : Om) (fs : SEnv → Rs Fl) : TS := fun Dn σ H => ∃ B0 B H0 env, Stt Z.K B0 B H0 H σ env ∧ PostS Z om B0 B (fs env) Dn
abbrev SS (X : Cx) (E : XK) (om : Om) (st : Stmt) (fs : SEnv → Rs Fl) : Prop := PS X st (tS (zOf X E) om fs)
abbrev SSs (X : Cx) (E : XK) (om : Om) (st : List Stmt) (fs : SEnv → Rs Fl) : Prop := PSs X st (tS (zOf X E) om fs)
/-- the entry's heaps may be greater -/
theorem PostS.step {Z : Wh} {om : Om} {B0 B B0' B' : Hp} {r : Rs Fl} {Dn : Ends} (x : Ex2 B0 B B0' B') (h : PostS Z om B0 B r Dn) : PostS Z om B0' B' r Dn := by
  have st : ∀ {σ H0 H env}, Stt Z.K B0' B' H0 H σ env → Stt Z.K B0 B H0 H σ env := fun {σ H0 H env} S =>
    ⟨x.trans S.x, S.len, S.sh, fun i d e => let ⟨p, h1, h2, h3, h4⟩ := S.ow i d e; ⟨p, h1, h2, x.b.free h3, h4⟩, fun i dss e => let ⟨p, ps, h1, h2, h3⟩ := S.on i dss e; ⟨p, ps, h1, h2, fun q hq => ⟨(h3 q hq).1, x.b.free (h3 q hq).2⟩⟩, S.ne⟩
  cases r with
  | bad => exact h
  | exc e => exact fun H s => h H (x.b.trans s)
  | ok f =>
    cases f with
    | nx env => exact fun σ H0 H S => h σ H0 H (st S)
    | bk env => exact fun σ H0 H S => h σ H0 H (st S)
    | ct env => exact fun σ H0 H S => h σ H0 H (st S)
    | rt d =>
      cases om with
      | o => exact fun p H0 H y n n0 o => h p H0 H (x.trans y) (x.b.free n) n0 o
      | e => exact fun v H0 H y r => h v H0 H (x.trans y) r
      | n =>
        obtain ⟨dss, e, h⟩ := h
        exact ⟨dss, e, fun p ps H0 H y n r => h p ps H0 H (x.trans y) (fun q hq => ⟨x.b.free (n q hq).1, (n q hq).2⟩) r⟩
theorem PostS.excs {Z : Wh} {om : Om} {B0 B H : Hp} {x : String} {Dn : Ends} (h : PostS Z om B0 B (.exc x) Dn) (s : Same B H) : ∀ H', Same H H' → EX Z.mg Z.E x H' := fun H' s' => h H' (s.trans s')

/-! ### the pure statements -/
def sNx : SEnv → Rs Fl := fun env => .ok (.nx env)
def sSq (f g : SEnv → Rs Fl) : SEnv → Rs Fl := fun env => (f env).bind fun r => match r with
  | .nx e => g e
  | .rt d => .ok (.rt d)
  | .bk e => .ok (.bk e)
  | .ct e => .ok (.ct e)
def sIf (c : Ev → Rs Bool) (f g : SEnv → Rs Fl) : SEnv → Rs Fl := fun env => (c (allV env)).bind fun b => if b = true then f env else g env
def sAs (i : Nat) (fe : Ev → Rs D) : SEnv → Rs Fl := fun env => (fe (hidV env)).bind fun d => .ok (.nx (env.set i (.sh d)))
def sAsB (i : Nat) (fe : Ev → Rs D) : SEnv → Rs Fl := fun env => (fe (allV env)).bind fun d => if flat d = true then .ok (.nx (env.set i (.sh d))) else .bad
def sNw (i : Nat) (fe : Ev → Rs D) : SEnv → Rs Fl := fun env => (fe (hidV env)).bind fun d => .ok (.nx (env.set i (.ow d)))
def flatI : D → Bool
  | .list ds => flatL ds
  | _ => false
def sNwB (i : Nat) (fe : Ev → Rs D) : SEnv → Rs Fl := fun env => (fe (allV env)).bind fun d => if flatI d = true then .ok (.nx (env.set i (.ow d))) else .bad
def sEx (fe : Ev → Rs D) : SEnv → Rs Fl := fun env => (fe (allV env)).bind fun _ => .ok (.nx env)
def sRt (fe : Ev → Rs D) : SEnv → Rs Fl := fun env => (fe (allV env)).bind fun d => .ok (.rt d)
def sRtV (i : Nat) : SEnv → Rs Fl := fun env => match env[i]? with
  | some (.ow d) => .ok (.rt d)
  | _ => .bad
def sRaise (x : String) : SEnv → Rs Fl := fun _ => .exc x
def owL {α : Type} (o : Option Sl) (k : List D → Rs α) : Rs α := match o with
  | some (.ow (.list ds)) => k ds
  | _ => .bad
def sAp (i : Nat) (fe : Ev → Rs D) : SEnv → Rs Fl := fun env => owL env[i]? fun ds => (fe (hidV env)).bind fun d => if ds.length ≤ 100000 then .ok (.nx (env.set i (.ow (.list (ds ++ [d]))))) else .bad
def sXt (i : Nat) (fe : Ev → Rs D) : SEnv → Rs Fl := fun env => owL env[i]? fun ds => (fe (hidV env)).bind fun d => lstB d fun es => if ds.length + es.length ≤ 100000 then .ok (.nx (env.set i (.ow (.list (ds ++ es))))) else .bad
def zFA (f : SEnv → Rs Fl) : SEnv → Rs Fl := fun env => f (frzV env)

section
variable {X : Cx} {E : XK} {om : Om} {st : Stmt} {rest body : List Stmt} {f g : SEnv → Rs Fl} {e : Expr} {fe : Ev → Rs D} {pos : Pos}
theorem ss_nil : SSs X E om [] sNx := PSs.weak pss_nil fun Dn σ H ⟨B0, B, H0, env, S, p⟩ => p σ H0 H S
theorem ss_one (h : SS X E om st f) : SSs X E om [st] f := pss_one h
theorem ss_cons (h : SS X E om st f) (t : SSs X E om rest g) : SSs X E om (st :: rest) (sSq f g) := by
  refine PSs.weak (pss_cons h t) fun Dn σ H ⟨B0, B, H0, env, S, p⟩ => ?_
  refine ⟨B0, B, H0, env, S, ?_⟩
  unfold sSq at p
  cases ef : f env with
  | bad => rw [ef] at p; exact p
  | exc x => rw [ef] at p; exact p
  | ok r =>
    rw [ef] at p
    cases r with
    | nx env' => exact fun σ' H0' H' S' => ⟨B0, B, H0', env', S', p⟩
    | rt d => exact p
    | bk env' => exact p
    | ct env' => exact p
theorem ss_pass : SS X E om (.Pass pos) sNx := PS.weak ps_pass fun Dn σ H ⟨B0, B, H0, env, S, p⟩ => p σ H0 H S
theorem ss_frz (h : SS X E om st f) : SS X E om st (zFA f) := PS.weak h fun Dn σ H ⟨B0, B, H0, env, S, p⟩ => ⟨B0, B, _, _, S.frzAll, p⟩
theorem ss_if {c : Expr} {a b : List Stmt} {gc : Ev → Rs Bool} (hc : SB X E c gc) (ha : SSs X E om a f) (hb : SSs X E om b g) : SS X E om (.If c a b pos) (sIf gc f g) := by
  refine PS.weak (ps_if hc ha hb) fun Dn σ H ⟨B0, B, H0, env, S, p⟩ => ?_
  refine ⟨bor H0 H σ env, allV env, S.bor_s, S.allv, ?_⟩
  unfold sIf at p
  cases ef : gc (allV env) with
  | bad => rw [ef] at p; exact p
  | exc x => rw [ef] at p; exact p.excs S.x.b
  | ok k =>
    rw [ef] at p
    intro H' s
    cases k with
    | true => exact ⟨B0, B, H0, env, S.up s, p⟩
    | false => exact ⟨B0, B, H0, env, S.up s, p⟩
theorem PS.asg {i : Nat} {te te' : TE} (h : PS X st (tAsg te (gName i))) (w : ∀ σ H Q, te' σ H Q → te σ H Q) : PS X st (tAsg te' (gName i)) := PS.weak h fun Dn σ H q => w _ _ _ q
theorem ss_as {i : Nat} (h : PS X st (tAsg (tE (zOf X E) fe) (gName i))) : SS X E om st (sAs i fe) := by
  refine PS.weak h fun Dn σ H ⟨B0, B, H0, env, S, p⟩ => ?_
  refine ⟨H0, hidV env, S.same, S.hid, ?_⟩
  unfold sAs at p
  cases ef : fe (hidV env) with
  | bad => rw [ef] at p; exact p
  | exc x => rw [ef] at p; exact p.excs S.x.b
  | ok d =>
    rw [ef] at p
    intro v H0' H' y r
    exact p _ H0' H' ((S.grow y).set_sh i r)
theorem ss_asB {i : Nat} (h : PS X st (tAsg (tE (zOf X E) fe) (gName i))) : SS X E om st (sAsB i fe) := by
  refine PS.weak h fun Dn σ H ⟨B0, B, H0, env, S, p⟩ => ?_
  refine ⟨bor H0 H σ env, allV env, S.bor_s, S.allv, ?_⟩
  unfold sAsB at p
  cases ef : fe (allV env) with
  | bad => rw [ef] at p; exact p
  | exc x => rw [ef] at p; exact p.excs S.x.b
  | ok d =>
    rw [ef] at p
    intro v H0' H' y r
    obtain ⟨y', hf⟩ := S.back y
    by_cases c : flat d = true
    · simp only [Rs.ok_bind, if_pos c] at p
      exact p _ _ H' ((S.grow y').set_sh i (Rp.flat_of hf c r))
    · simp only [Rs.ok_bind, if_neg c] at p
      exact p.elim
theorem ss_nw {i : Nat} (h : PS X st (tAsg (tO (zOf X E) fe) (gName i))) : SS X E om st (sNw i fe) := by
  refine PS.weak h fun Dn σ H ⟨B0, B, H0, env, S, p⟩ => ?_
  refine ⟨H0, hidV env, S.same, S.hid, ?_⟩
  unfold sNw at p
  cases ef : fe (hidV env) with
  | bad => rw [ef] at p; exact p
  | exc x => rw [ef] at p; exact p.excs S.x.b
  | ok d =>
    rw [ef] at p
    intro a H0' H' y n n0 r
    exact p _ H0' H' (S.set_ow y i n n0 r)
theorem ss_nwB {i : Nat} (h : PS X st (tAsg (tO (zOf X E) fe) (gName i))) : SS X E om st (sNwB i fe) := by
  refine PS.weak h fun Dn σ H ⟨B0, B, H0, env, S, p⟩ => ?_
  refine ⟨bor H0 H σ env, allV env, S.bor_s, S.allv, ?_⟩
  unfold sNwB at p
  cases ef : fe (allV env) with
  | bad => rw [ef] at p; exact p
  | exc x => rw [ef] at p; exact p.excs S.x.b
  | ok d =>
    rw [ef] at p
    intro a H0' H' y n n0 r
    obtain ⟨y', hf⟩ := S.back y
    by_cases c : flatI d = true
    · simp only [Rs.ok_bind, if_pos c] at p
      cases d <;> first | (simp [flatI] at c; done) | skip
      case list ds =>
        rcases r with ⟨es, vs, e, h1, h2⟩ | ⟨ps, e, _⟩
        · cases e
          refine p _ _ H' (S.set_ow y' i n ?_ (.inl ⟨ds, vs, rfl, h1, RpL.flat_of hf (by simpa [flatI] using c) h2⟩))
          by_cases co : Own H σ env a
          · exact cut_own co
          · rw [cut_not co]; exact n0
        · cases e
    · simp only [Rs.ok_bind, if_neg c] at p
      exact p.elim
theorem ss_ex (he : SE X E e fe) (hs : swapsWith e none pos.line X.env = pure false := by rfl) : SS X E om (.Expr e pos) (sEx fe) := by
  refine PS.weak (ps_expr he hs) fun Dn σ H ⟨B0, B, H0, env, S, p⟩ => ?_
  refine ⟨bor H0 H σ env, allV env, S.bor_s, S.allv, ?_⟩
  unfold sEx at p
  cases ef : fe (allV env) with
  | bad => rw [ef] at p; exact p
  | exc x => rw [ef] at p; exact p.excs S.x.b
  | ok d =>
    rw [ef] at p
    intro v H0' H' y r
    exact p σ H0 H' (S.up y.b)
theorem ss_doc {x j pos'} : SS X E om (.Expr (.Constant (.str x) j pos) pos') sNx := PS.weak ps_doc fun Dn σ H ⟨B0, B, H0, env, S, p⟩ => p σ H0 H S
theorem ss_rt (he : SE X E e fe) : SS X E .e (.Return (some e) pos) (sRt fe) := by
  refine PS.weak (ps_ret he) fun Dn σ H ⟨B0, B, H0, env, S, p⟩ => ?_
  refine ⟨bor H0 H σ env, allV env, S.bor_s, S.allv, ?_⟩
  unfold sRt at p
  cases ef : fe (allV env) with
  | bad => rw [ef] at p; exact p
  | exc x => rw [ef] at p; exact p.excs S.x.b
  | ok d =>
    rw [ef] at p
    intro v H0' H' y r
    exact p v H0' H' (S.frzAll.x.trans y) r
theorem ss_rtO (he : SO X E e fe) : SS X E .o (.Return (some e) pos) (sRt fe) := by
  refine PS.weak (ps_ret he) fun Dn σ H ⟨B0, B, H0, env, S, p⟩ => ?_
  refine ⟨bor H0 H σ env, allV env, S.bor_s, S.allv, ?_⟩
  unfold sRt at p
  cases ef : fe (allV env) with
  | bad => rw [ef] at p; exact p
  | exc x => rw [ef] at p; exact p.excs S.x.b
  | ok d =>
    rw [ef] at p
    intro v H0' H' y n n0 r
    exact p v H0' H' (S.frzAll.x.trans y) (S.x.b.free n) n0 r
theorem ss_rtV {i : Nat} (hv : PE X e (tVar i)) : SS X E .o (.Return (some e) pos) (sRtV i) := by
  refine PS.weak (ps_ret hv) fun Dn σ H ⟨B0, B, H0, env, S, p⟩ => ?_
  unfold sRtV at p
  split at p
  · rename_i d hd
    obtain ⟨a, h1, h2, h3, h4⟩ := S.ow i d hd
    exact ⟨.ref a, h1, p a H0 H S.x h3 h2 h4⟩
  · exact p.elim
theorem ss_raise {x : String} (hc : X.calm = true) (tk : Takes X (fun cls d _ H => E cls d H)) {C : Addr} (hm : X.mg (Str.ofString x) = some (.ref C)) (he : PMk X e (fun _ H Q => Q (.ref C) none H)) : SS X E om (.Raise (some e) none pos) (sRaise x) :=
  PS.weak (ps_raise hc tk he) fun Dn σ H ⟨B0, B, H0, env, S, p⟩ => p H S.x.b C hm
/-- x.append(e) -/
theorem ss_ap {i : Nat} {o : Expr} {apos cpos : Pos} (hv : PE X o (tVar i)) (he : SE X E e fe)
    (hbase : attributeBase o "append" X.env (eval o X.env) = eval o X.env := by rfl)
    (hfew : ((backTo cpos (starEach [e] X.env)).all (fun x => !x.1) && (backToKw cpos (keywordEach [] X.env)).all (fun x => x.1.isSome)
      && decide (([e] : List Expr).length + ([] : List Keyword).length + (if ([] : List Keyword).isEmpty then 0 else 1) < 30)) = true := by rfl)
    (hline : (apos.endLine == cpos.line) = true := by rfl) (hs : starEach [e] X.env = (false, eval e X.env) :: starEach [] X.env := by rfl) (hplain : (backTo cpos (starEach [] X.env)).any (·.1) = false := by rfl)
    (hsw : swapsWith (.Call (.Attribute o "append" apos) [e] [] cpos) none pos.line X.env = pure false := by rfl) :
    SS X E om (.Expr (.Call (.Attribute o "append" apos) [e] [] cpos) pos) (sAp i fe) := by
  refine PS.weak (ps_expr (pe_bm PySem.F.plainAttrs_list PySem.F.slot_list_append PySem.F.type_list_append mt_append hv (pa_cons he pa_nil hs) hbase hfew hline hs hplain) hsw) fun Dn σ H ⟨B0, B, H0, env, S, p⟩ => ?_
  unfold sAp owL at p
  split at p
  · rename_i ds hd
    obtain ⟨a, h1, h2, h3, h4⟩ := S.ow i _ hd
    rcases h4 with ⟨es, vs, e1, e2, e3⟩ | ⟨ps, e1, _⟩
    · cases e1
      refine ⟨.ref a, h1, .inl ⟨rfl, vs, SqL.of e2⟩, ?_⟩
      refine ⟨H0, hidV env, S.same, S.hid, ?_⟩
      cases ef : fe (hidV env) with
      | bad => rw [ef] at p; exact p
      | exc x => rw [ef] at p; exact p.excs S.x.b
      | ok d =>
        rw [ef] at p
        intro v H0' H' y r
        by_cases c : ds.length ≤ 100000
        · simp only [Rs.ok_bind, if_pos c] at p
          refine ⟨a, vs, v, rfl, rfl, y.b _ _ e2, by rw [e3.length]; exact Nat.lt_of_le_of_lt c (by decide), ?_⟩
          refine p _ H0' _ ((S.grow y).mut (d' := .list (ds ++ [d])) hd h1 (.inl ⟨_, _, rfl, upd_same, (e3.mono y.a).append (.cons r .nil)⟩))
        · simp only [Rs.ok_bind, if_neg c] at p
          exact p.elim
    · cases e1
  · exact p.elim
/-- x.extend(e), e a new list -/
theorem ss_xt {i : Nat} {o : Expr} {apos cpos : Pos} (hv : PE X o (tVar i)) (he : SO X E e fe)
    (hbase : attributeBase o "extend" X.env (eval o X.env) = eval o X.env := by rfl)
    (hfew : ((backTo cpos (starEach [e] X.env)).all (fun x => !x.1) && (backToKw cpos (keywordEach [] X.env)).all (fun x => x.1.isSome)
      && decide (([e] : List Expr).length + ([] : List Keyword).length + (if ([] : List Keyword).isEmpty then 0 else 1) < 30)) = true := by rfl)
    (hline : (apos.endLine == cpos.line) = true := by rfl) (hs : starEach [e] X.env = (false, eval e X.env) :: starEach [] X.env := by rfl) (hplain : (backTo cpos (starEach [] X.env)).any (·.1) = false := by rfl)
    (hsw : swapsWith (.Call (.Attribute o "extend" apos) [e] [] cpos) none pos.line X.env = pure false := by rfl) :
    SS X E om (.Expr (.Call (.Attribute o "extend" apos) [e] [] cpos) pos) (sXt i fe) := by
  refine PS.weak (ps_expr (pe_bm PySem.F.plainAttrs_list PySem.F.slot_list_extend PySem.F.type_list_extend mt_extend hv (pa_cons he pa_nil hs) hbase hfew hline hs hplain) hsw) fun Dn σ H ⟨B0, B, H0, env, S, p⟩ => ?_
  unfold sXt owL at p
  split at p
  · rename_i ds hd
    obtain ⟨a, h1, h2, h3, h4⟩ := S.ow i _ hd
    rcases h4 with ⟨es, vs, e1, e2, e3⟩ | ⟨ps, e1, _⟩
    · cases e1
      refine ⟨.ref a, h1, .inl ⟨rfl, vs, SqL.of e2⟩, ?_⟩
      refine ⟨H0, hidV env, S.same, S.hid, ?_⟩
      cases ef : fe (hidV env) with
      | bad => rw [ef] at p; exact p
      | exc x => rw [ef] at p; exact p.excs S.x.b
      | ok d =>
        rw [ef] at p
        intro b H0' H' y n n0 r
        cases d <;> first | exact p.elim | skip
        case list es =>
          rcases r with ⟨es', ws, f1, f2, f3⟩ | ⟨ps, f1, _⟩
          · cases f1
            by_cases c : ds.length + es.length ≤ 100000
            · simp only [Rs.ok_bind, lstB, if_pos c] at p
              refine ⟨a, b, vs, ws, rfl, rfl, y.b _ _ e2, f2, by rw [e3.length, f3.length]; exact sz5 c, ?_⟩
              refine p _ H0' _ ((S.grow y).mut (d' := .list (ds ++ es)) hd h1 (.inl ⟨_, _, rfl, upd_same, (e3.mono y.a).append f3⟩))
            · simp only [Rs.ok_bind, lstB, if_neg c] at p
              exact p.elim
          · cases f1
    · cases e1
  · exact p.elim
/-! ### while -/
def whileN (c : Ev → Rs Bool) (body : SEnv → Rs Fl) : Nat → SEnv → Rs Fl
  | 0, _ => .bad
  | n + 1, env => (c (allV env)).bind fun b => if b = true then (body env).bind fun r => (match r with
      | .nx e => whileN c body n e
      | .ct e => whileN c body n e
      | .bk e => .ok (.nx e)
      | .rt d => .ok (.rt d)) else .ok (.nx env)
theorem ss_wh {c : Expr} {gc : Ev → Rs Bool} (n : Nat) (hp : PassesOwn (model X.prog X.w) X.A X.env X.xe) (hc : SB X E c gc) (hb : SSs X E om body f) : SS X E om (.While c body [] pos) (whileN gc f n) := by
  refine PS.weak (ps_while hp hc hb) fun Dn σ H ⟨B0, B, H0, env, S, p⟩ => ?_
  refine ⟨fun m σ H => ∃ H0 env, Stt X.K B0 B H0 H σ env ∧ PostS (zOf X E) om B0 B (whileN gc f m env) Dn, ⟨n, H0, env, S, p⟩, ?_⟩
  rintro m σ H ⟨H0, env, S, p⟩
  refine ⟨bor H0 H σ env, allV env, S.bor_s, S.allv, ?_⟩
  cases m with
  | zero => exact p.elim
  | succ m =>
    unfold whileN at p
    cases ef : gc (allV env) with
    | bad => rw [ef] at p; exact p
    | exc x => rw [ef] at p; exact p.excs S.x.b
    | ok k =>
      rw [ef] at p
      intro H' s
      cases k with
      | false =>
        rw [if_neg Bool.false_ne_true]
        exact p σ H0 H' (S.up s)
      | true =>
        rw [if_pos rfl]
        refine ⟨fun σ' H' => ∃ H0 env, Stt X.K B0 B H0 H' σ' env ∧ PostS (zOf X E) om B0 B (whileN gc f m env) Dn, fun σ' H' ⟨H0, env, S, p⟩ => ⟨m, Nat.lt_succ_self m, H0, env, S, p⟩, B0, B, H0, env, S.up s, ?_⟩
        simp only [Rs.ok_bind, if_true] at p
        cases eb : f env with
        | bad => rw [eb] at p; exact p
        | exc x => rw [eb] at p; exact p
        | ok r =>
          rw [eb] at p
          cases r with
          | nx e' => exact fun σ' H0' H'' S' => ⟨H0', e', S', p⟩
          | ct e' => exact fun σ' H0' H'' S' => ⟨H0', e', S', p⟩
          | bk e' => exact p
          | rt d => exact p
end
end Sk

namespace Sk
open PySem PySem.Spec PyProof.Rows L2

/-! ### what is walked -/
structure Wk (K : PySem.W.Frag) (H0 : Hp) (J : It) (items : List D) : Prop where
  go : ∀ (t : Nat) (H : Hp), Same H0 H → t < items.length → J.go t H
  stop : ∀ (t : Nat) (H : Hp), Same H0 H → items.length ≤ t → J.stop t H
  yld : ∀ (t : Nat) (H H1 : Hp) (x : V) (H' : Hp) (d : D), Same H0 H1 → Same H1 H → items[t]? = some d → J.yld t H x H' → ∃ H1', Ex2 H1 H H1' H' ∧ Rp K H1' d x
def PostI (Z : Wh) (R : It → Hp → Prop) (H0 H : Hp) (r : Rs (List D)) : Prop := match r with
  | .ok items => ∀ J H0' H', Ex2 H0 H H0' H' → Wk Z.K H0' J items → R J H'
  | .exc x => ∀ H', Same H H' → EX Z.mg Z.E x H'
  | .bad => False
theorem PostI.step {Z : Wh} {R : It → Hp → Prop} {H0 H H0' H' : Hp} {r : Rs (List D)} (x : Ex2 H0 H H0' H') (h : PostI Z R H0 H r) : PostI Z R H0' H' r := by
  cases r with
  | ok d => exact fun v A B y q => h v A B (x.trans y) q
  | exc e => exact fun B y => h B (x.b.trans y)
  | bad => exact h
def iS (Z : Wh) (fs : Ev → Rs (List D)) : TI := fun σ H R => ∃ H0 ev, Same H0 H ∧ RpV Z.K H0 σ ev ∧ PostI Z R H0 H (fs ev)
theorem PI.weak {X : Cx} {tg e : Expr} {t t' : TI} (h : PI X tg e t) (w : ∀ σ H Q, t' σ H Q → t σ H Q) : PI X tg e t' := ⟨fun pins s σ H Q I q => h.run pins s σ H Q I (w σ H Q q)⟩
def rng1 : D → Rs (List D)
  | .int j => if -1000000 ≤ j ∧ j ≤ 1000000 then .ok ((List.range j.toNat).map fun k : Nat => .int (0 + (k : Int))) else .bad
  | _ => .bad
def rng2 : D → D → Rs (List D)
  | .int i, .int j => if (-1000000 ≤ i ∧ i ≤ 1000000) ∧ -1000000 ≤ j ∧ j ≤ 1000000 then .ok ((List.range (j - i).toNat).map fun k : Nat => .int (i + (k : Int))) else .bad
  | _, _ => .bad
def zR1 (fa : Ev → Rs D) : Ev → Rs (List D) := fun ev => (fa ev).bind rng1
def zR2 (fa fb : Ev → Rs D) : Ev → Rs (List D) := fun ev => (fa ev).bind fun a => (fb ev).bind fun b => rng2 a b
def lstR : D → Rs (List D)
  | .list ds => .ok ds
  | _ => .bad
def tupR : D → Rs (List D)
  | .tuple ds => .ok ds
  | _ => .bad
def strR : D → Rs (List D)
  | .str z => .ok (z.cps.toList.map fun c => .str ⟨#[c]⟩)
  | _ => .bad
def zLst (fe : Ev → Rs D) : Ev → Rs (List D) := fun ev => (fe ev).bind lstR
def zTup (fe : Ev → Rs D) : Ev → Rs (List D) := fun ev => (fe ev).bind tupR
def zStr (fe : Ev → Rs D) : Ev → Rs (List D) := fun ev => (fe ev).bind strR
def zipR : D → D → Rs (List D)
  | .list xs, .list ys => .ok ((xs.zip ys).map fun p => .tuple [p.1, p.2])
  | _, _ => .bad
def zZip (fa fb : Ev → Rs D) : Ev → Rs (List D) := fun ev => (fa ev).bind fun a => (fb ev).bind fun b => zipR a b
theorem wk_range (K : PySem.W.Frag) (H0 : Hp) (lo : Int) (n : Nat) : Wk K H0 (Itr lo n) ((List.range n).map fun k : Nat => .int (lo + (k : Int))) where
  go := fun t H _ h => by simp only [List.length_map, List.length_range, Array.length_toList] at h; exact h
  stop := fun t H _ h => by simp only [List.length_map, List.length_range, Array.length_toList] at h; exact h
  yld := fun t H H1 x H' d s s1 e y => by
    obtain ⟨rfl, rfl⟩ := y
    rw [List.getElem?_map] at e
    obtain ⟨k, hk, rfl⟩ := Option.map_eq_some_iff.mp e
    obtain ⟨_, hk⟩ := List.getElem?_eq_some_iff.mp hk
    simp only [List.getElem_range] at hk
    subst hk
    exact ⟨H1, Ex2.refl s1, rfl⟩
theorem wk_list {K : PySem.W.Frag} {H0 : Hp} {a : Addr} {vs : List V} {ds : List D} (h : SqL K H0 a vs) (r : RpL K H0 ds vs) : Wk K H0 (Itl K a) ds where
  go := fun t H s hl => ⟨vs, vs[t]'(by rw [r.length]; exact hl), s.seq h, by simp⟩
  stop := fun t H s hl => ⟨vs, s.seq h, by rw [r.length]; exact hl⟩
  yld := fun t H H1 x H' d s s1 e y => by
    obtain ⟨rfl, f⟩ := y
    obtain ⟨v, hv, rv⟩ := r.get e
    cases (f vs ((s.trans s1).seq h)).symm.trans hv
    exact ⟨H1, Ex2.refl s1, rv.mono s⟩
theorem wk_tup {K : PySem.W.Frag} {H0 : Hp} {a : Addr} {vs : List V} {ds : List D} (h : SqT K H0 a vs) (r : RpL K H0 ds vs) : Wk K H0 (Itt K a) ds where
  go := fun t H s hl => ⟨vs, vs[t]'(by rw [r.length]; exact hl), sqt_same s h, by simp⟩
  stop := fun t H s hl => ⟨vs, sqt_same s h, by rw [r.length]; exact hl⟩
  yld := fun t H H1 x H' d s s1 e y => by
    obtain ⟨rfl, f⟩ := y
    obtain ⟨v, hv, rv⟩ := r.get e
    cases (f vs (sqt_same (s.trans s1) h)).symm.trans hv
    exact ⟨H1, Ex2.refl s1, rv.mono s⟩
theorem wk_str (K : PySem.W.Frag) (H0 : Hp) (z : Str) : Wk K H0 (Its z) (z.cps.toList.map fun c => .str ⟨#[c]⟩) where
  go := fun t H _ h => by simp only [List.length_map, List.length_range, Array.length_toList] at h; exact h
  stop := fun t H _ h => by simp only [List.length_map, List.length_range, Array.length_toList] at h; exact h
  yld := fun t H H1 x H' d s s1 e y => by
    obtain ⟨rfl, c, hc, rfl⟩ := y
    rw [List.getElem?_map] at e
    obtain ⟨k, hk, rfl⟩ := Option.map_eq_some_iff.mp e
    rw [Array.getElem?_toList, hc] at hk
    cases hk
    exact ⟨H1, Ex2.refl s1, rfl⟩
theorem wk_zip {K : PySem.W.Frag} {H0 : Hp} {a b : Addr} {vs ws : List V} {ds es : List D} (h : SqL K H0 a vs) (r : RpL K H0 ds vs) (h2 : SqL K H0 b ws) (r2 : RpL K H0 es ws) : Wk K H0 (Itz K a b) ((ds.zip es).map fun p => .tuple [p.1, p.2]) where
  go := fun t H s hl => by
    simp only [List.length_map, List.length_zip] at hl
    exact ⟨vs, ws, vs[t]'(by rw [r.length]; omega), ws[t]'(by rw [r2.length]; omega), s.seq h, s.seq h2, by simp, by simp⟩
  stop := fun t H s hl => by
    simp only [List.length_map, List.length_zip] at hl
    refine ⟨vs, ws, s.seq h, s.seq h2, ?_⟩
    rw [r.length, r2.length]
    omega
  yld := fun t H H1 x H' d s s1 e y => by
    obtain ⟨T, x1, x2, rfl, nT, rfl, f1, f2⟩ := y
    rw [List.getElem?_map] at e
    obtain ⟨⟨d1, d2⟩, hk, rfl⟩ := Option.map_eq_some_iff.mp e
    rw [List.getElem?_zip_eq_some] at hk
    obtain ⟨v, hv, rv⟩ := r.get hk.1
    obtain ⟨w, hw, rw'⟩ := r2.get hk.2
    cases (f1 vs ((s.trans s1).seq h)).symm.trans hv
    cases (f2 ws ((s.trans s1).seq h2)).symm.trans hw
    have n1 := s1.free nT
    exact ⟨upd H1 T (.tup [x1, x2]), Ex2.new s1 nT _, T, [x1, x2], rfl, SqT.of upd_same, .cons (rv.mono (s.trans (same_new n1 _))) (.cons (rw'.mono (s.trans (same_new n1 _))) .nil)⟩
section
variable {X : Cx} {E : XK} {tg e a b : Expr} {fe fa fb : Ev → Rs D} {p pos : Pos}
theorem one {σ : L2.St} {H : Hp} {Z : Wh} {α : Type} {op : D → Rs α} {R : V → Hp → Prop} {P : Hp → Hp → Rs α → Prop} (h : ∃ H0 ev, Same H0 H ∧ RpV Z.K H0 σ ev ∧ P H0 H ((fa ev).bind op))
    (step : ∀ H0 H H0' H' r, Ex2 H0 H H0' H' → P H0 H r → P H0' H' r) (hexc : ∀ H0 H x, P H0 H (.exc x) → ∀ H', Same H H' → EX Z.mg Z.E x H') (hbad : ∀ H0 H, ¬ P H0 H .bad)
    (fin : ∀ H0 H x a, Same H0 H → Rp Z.K H0 a x → P H0 H (op a) → R x H) : tE Z fa σ H R := by
  obtain ⟨H0, ev, s, rv, p⟩ := h
  refine ⟨H0, ev, s, rv, ?_⟩
  cases ea : fa ev with
  | bad => rw [ea] at p; exact (hbad _ _ p).elim
  | exc x => rw [ea] at p; exact hexc _ _ _ p
  | ok a =>
    rw [ea] at p
    intro v H1 H' x1 r1
    exact fin H1 H' v a x1.c r1 (step _ _ _ _ _ x1 p)
theorem src_rng1 (hm : X.mg "range" = none) (ha : SE X E a fa) (hg : Gl X "range" := by rfl) (hs : starEach [a] X.env = [(false, eval a X.env)] := by rfl) : PI X tg (.Call (.Name "range" p) [a] [] pos) (iS (zOf X E) (zR1 fa)) := by
  refine PI.weak (pi_range1 hg hm (pa_cons ha pa_nil hs) hs) fun σ H R q => ?_
  refine one (P := PostI (zOf X E) R) q (fun _ _ _ _ _ x p => p.step x) (fun _ _ _ p => p) (fun _ _ p => p) fun H0 H x a s r p => ?_
  cases a <;> first | exact p.elim | skip
  case int j =>
    simp only [rng1] at p
    by_cases c : -1000000 ≤ j ∧ j ≤ 1000000
    · rw [if_pos c] at p
      exact ⟨j, by rw [show x = V.int j from r], by omega, by omega, p _ _ _ (Ex2.refl s) (wk_range _ _ 0 _)⟩
    · rw [if_neg c] at p; exact p.elim
theorem src_rng2 (hm : X.mg "range" = none) (ha : SE X E a fa) (hb : SE X E b fb) (hg : Gl X "range" := by rfl) (hs : starEach [a, b] X.env = [(false, eval a X.env), (false, eval b X.env)] := by rfl) (hs2 : starEach [b] X.env = [(false, eval b X.env)] := by rfl) :
    PI X tg (.Call (.Name "range" p) [a, b] [] pos) (iS (zOf X E) (zR2 fa fb)) := by
  refine PI.weak (pi_range2 hg hm (pa_cons ha (pa_cons hb pa_nil hs2) (by rw [hs, hs2])) hs hs2) fun σ H R q => ?_
  refine two (P := PostI (zOf X E) R) q (fun _ _ _ _ _ x p => p.step x) (fun _ _ _ p => p) (fun _ _ p => p) fun H0 H x y a b s r r2 p => ?_
  cases a <;> cases b <;> first | exact p.elim | skip
  case int.int i j =>
    simp only [rng2] at p
    by_cases c : (-1000000 ≤ i ∧ i ≤ 1000000) ∧ -1000000 ≤ j ∧ j ≤ 1000000
    · rw [if_pos c] at p
      exact ⟨i, j, by rw [show x = V.int i from r, show y = V.int j from r2], ⟨by omega, by omega, by omega, by omega⟩, p _ _ _ (Ex2.refl s) (wk_range _ _ _ _)⟩
    · rw [if_neg c] at p; exact p.elim
theorem src_list (h : SE X E e fe) : PI X tg e (iS (zOf X E) (zLst fe)) := by
  refine PI.weak (pi_list h) fun σ H R q => ?_
  refine one (P := PostI (zOf X E) R) q (fun _ _ _ _ _ x p => p.step x) (fun _ _ _ p => p) (fun _ _ p => p) fun H0 H x a s r p => ?_
  cases a <;> first | exact p.elim | skip
  case list ds =>
    obtain ⟨a, vs, rfl, h1, h2⟩ := r
    exact ⟨a, rfl, ⟨vs, s.seq h1⟩, p _ _ _ (Ex2.refl s) (wk_list h1 h2)⟩
theorem src_tup (h : SE X E e fe) : PI X tg e (iS (zOf X E) (zTup fe)) := by
  refine PI.weak (pi_tup h) fun σ H R q => ?_
  refine one (P := PostI (zOf X E) R) q (fun _ _ _ _ _ x p => p.step x) (fun _ _ _ p => p) (fun _ _ p => p) fun H0 H x a s r p => ?_
  cases a <;> first | exact p.elim | skip
  case tuple ds =>
    obtain ⟨a, vs, rfl, h1, h2⟩ := r
    exact ⟨a, rfl, ⟨vs, sqt_same s h1⟩, p _ _ _ (Ex2.refl s) (wk_tup h1 h2)⟩
theorem src_str (h : SE X E e fe) : PI X tg e (iS (zOf X E) (zStr fe)) := by
  refine PI.weak (pi_str h) fun σ H R q => ?_
  refine one (P := PostI (zOf X E) R) q (fun _ _ _ _ _ x p => p.step x) (fun _ _ _ p => p) (fun _ _ p => p) fun H0 H x a s r p => ?_
  cases a <;> first | exact p.elim | skip
  case str z => exact ⟨z, r, p _ _ _ (Ex2.refl s) (wk_str _ _ z)⟩
theorem src_zip {elts : List Expr} {kk : Nat} {tpos : Pos} (hm : X.mg "zip" = none) (ha : SE X E a fa) (hb : SE X E b fb) (hg : Gl X "zip" := by rfl)
    (hs : starEach [a, b] X.env = (false, eval a X.env) :: starEach [b] X.env := by rfl) (hs2 : starEach [b] X.env = (false, eval b X.env) :: starEach [] X.env := by rfl) (hpl : (backTo pos (starEach [b] X.env)).any (·.1) = false := by rfl) :
    PI X (.Tuple elts kk tpos) (.Call (.Name "zip" p) [a, b] [] pos) (iS (zOf X E) (zZip fa fb)) := by
  refine PI.weak (pi_zip hg hm (pa_cons ha (pa_cons hb pa_nil hs2) hs) hs hpl) fun σ H R q => ?_
  refine two (P := PostI (zOf X E) R) q (fun _ _ _ _ _ x p => p.step x) (fun _ _ _ p => p) (fun _ _ p => p) fun H0 H x y a b s r r2 p => ?_
  cases a <;> cases b <;> first | exact p.elim | skip
  case list.list ds es =>
    obtain ⟨a, vs, rfl, h1, h2⟩ := r
    obtain ⟨b, ws, rfl, h3, h4⟩ := r2
    exact ⟨a, b, vs, ws, rfl, s.seq h1, s.seq h3, p _ _ _ (Ex2.refl s) (wk_zip h1 h2 h3 h4)⟩
end

/-! ### for -/
/-- a target and what it does to the locals -/
def TgS (K : PySem.W.Frag) (g : TG) (asg : D → SEnv → Rs SEnv) : Prop := ∀ (B0 B H0 H : Hp) (σ : L2.St) (env env' : SEnv) (d : D) (v : V) (Q : L2.St → Hp → Prop), Stt K B0 B H0 H σ env → Rp K H0 d v → asg d env = .ok env' →
  (∀ σ' H0' H', Stt K B0 B H0' H' σ' env' → Q σ' H') → g v σ H Q
def gS1 (i : Nat) : D → SEnv → Rs SEnv := fun d env => .ok (env.set i (.sh d))
def gS2 (i j : Nat) : D → SEnv → Rs SEnv := fun d env => match d with
  | .tuple [a, b] => .ok ((env.set i (.sh a)).set j (.sh b))
  | _ => .bad
theorem tg_1 {K : PySem.W.Frag} (i : Nat) : TgS K (gName i) (gS1 i) := fun B0 B H0 H σ env env' d v Q S r e q => by
  cases e
  exact q _ H0 H (S.set_sh i r)
theorem tg_2 {K : PySem.W.Frag} (i j : Nat) : TgS K (gTup K 2 (gCons (gName i) (gCons (gName j) gNil))) (gS2 i j) := fun B0 B H0 H σ env env' d v Q S r e q => by
  unfold gS2 at e
  split at e
  · rename_i a b
    cases e
    obtain ⟨l, vs, rfl, h1, h2⟩ := r
    obtain ⟨x, y, rfl, rx, ry⟩ := h2.two
    refine ⟨l, [x, y], rfl, sqt_same S.same h1, rfl, x, [y], rfl, y, [], rfl, rfl, ?_⟩
    exact q _ H0 H ((S.set_sh i rx).set_sh j ry)
  · cases e
def loopF (asg : D → SEnv → Rs SEnv) (body : SEnv → Rs Fl) : List D → SEnv → Rs Fl
  | [], env => .ok (.nx env)
  | d :: ds, env => (asg d env).bind fun env1 => (body env1).bind fun r => match r with
    | .nx e => loopF asg body ds e
    | .ct e => loopF asg body ds e
    | .bk e => .ok (.nx e)
    | .rt d => .ok (.rt d)
def sFor (fs : Ev → Rs (List D)) (asg : D → SEnv → Rs SEnv) (body : SEnv → Rs Fl) : SEnv → Rs Fl := fun env => (fs (hidV env)).bind fun items => loopF asg body items env
section
variable {X : Cx} {E : XK} {om : Om} {tg iter : Expr} {body : List Stmt} {f : SEnv → Rs Fl} {fs : Ev → Rs (List D)} {g : TG} {asg : D → SEnv → Rs SEnv} {pos : Pos}
theorem Stt.loop {K : PySem.W.Frag} {B0 B H0 H : Hp} {σ : L2.St} {env : SEnv} (S : Stt K B0 B H0 H σ env) : Ex2 B0 B H0 (cutO H H σ env) ∧ Stt K H0 (cutO H H σ env) H0 H σ env := by
  have c1 : Same H0 (cutO H H σ env) := fun b o e => by rw [cut_not (S.not_own e)]; exact S.same _ _ e
  have c2 : Same (cutO H H σ env) H := fun b o e => by
    by_cases c : Own H σ env b
    · rw [cut_own c] at e; cases e
    · rw [cut_not c] at e; exact e
  refine ⟨⟨S.x.a, fun b o e => ?_, c1, S.x.d⟩, ⟨⟨Same.refl _, c2, S.same, fun _ _ _ => rfl⟩, S.len, S.sh, fun i d e => ?_, fun i dss e => ?_, S.ne⟩⟩
  · by_cases c : Own H σ env b
    · have := (S.own c).2.1
      rw [this] at e; cases e
    · rw [cut_not c]; exact S.x.b _ _ e
  · obtain ⟨p, h1, h2, h3, h4⟩ := S.ow i d e
    exact ⟨p, h1, h2, cut_own ⟨i, _, e, h1⟩, h4⟩
  · obtain ⟨p, ps, h1, h2, h3⟩ := S.on i dss e
    exact ⟨p, ps, h1, h2, fun q hq => ⟨(h3 q hq).1, cut_own ⟨i, _, e, p, ps, h1, h2.o, hq⟩⟩⟩
theorem ss_for (hp : PassesOwn (model X.prog X.w) X.A X.env X.xe) (hc : X.calm = true) (hi : PI X tg iter (iS (zOf X E) fs)) (hg : PG X tg g) (ht' : TgS X.K g asg) (hne : ∀ d e x, asg d e ≠ .exc x) (hb : SSs X E om body f)
    (hs : ∀ x, foldedSetIterable iter X.env x = pure x := by intro _; rfl) : SS X E om (.For tg iter body [] pos) (sFor fs asg f) := by
  refine PS.weak (ps_for hp hc hi hg hb hs) fun Dn σ H ⟨B0, B, H0, env, S, p⟩ => ?_
  refine ⟨H0, hidV env, S.same, S.hid, ?_⟩
  unfold sFor at p
  cases ef : fs (hidV env) with
  | bad => rw [ef] at p; exact p
  | exc x => rw [ef] at p; exact p.excs S.x.b
  | ok items =>
    rw [ef] at p
    intro J H0' H' y wk
    obtain ⟨xb, S'⟩ := (S.grow y).loop
    have p' := PostS.step xb p
    simp only [Rs.ok_bind] at p'
    generalize hB : cutO H' H' σ env = Bc at S' p' xb
    refine ⟨fun t m σ3 H3 => t ≤ items.length ∧ m = items.length - t ∧ ∃ H0c envc, Stt X.K H0' Bc H0c H3 σ3 envc ∧ PostS (zOf X E) om H0' Bc (loopF asg f (items.drop t) envc) Dn, ⟨items.length, Nat.zero_le _, by rw [Nat.sub_zero], H0', env, S', by rw [List.drop_zero]; exact p'⟩, ?_⟩
    rintro t m σ3 H3 ⟨ht, rfl, H0c, envc, Sc, pc⟩
    have sb : Same H0' H3 := Sc.x.a.trans Sc.x.c
    by_cases hlt : t < items.length
    · refine .inr ⟨wk.go t H3 sb hlt, fun σ4 H4 => ∃ H0d envd, Stt X.K H0' Bc H0d H4 σ4 envd ∧ PostS (zOf X E) om H0' Bc (loopF asg f (items.drop (t + 1)) envd) Dn, fun σ4 H4 ⟨H0d, envd, Sd, pd⟩ => ⟨items.length - (t + 1), by omega, hlt, rfl, H0d, envd, Sd, pd⟩, fun x H4 hy => ?_⟩
      have hd : items.drop t = items[t] :: items.drop (t + 1) := List.drop_eq_getElem_cons hlt
      rw [hd] at pc
      obtain ⟨H0d, yd, rd⟩ := wk.yld t H3 H0c x H4 items[t] Sc.x.a Sc.x.c (List.getElem?_eq_getElem hlt) hy
      have Sd := Sc.grow yd
      unfold loopF at pc
      cases ea : asg items[t] envc with
      | bad => rw [ea] at pc; exact pc.elim
      | exc x' =>
        exfalso
        exact hne _ _ _ ea
      | ok env1 =>
        rw [ea] at pc
        refine ht' H0' Bc H0d H4 σ3 envc env1 items[t] x _ Sd rd ea fun σ5 H05 H5 S5 => ⟨H0', Bc, H05, env1, S5, ?_⟩
        simp only [Rs.ok_bind] at pc
        cases eb : f env1 with
        | bad => rw [eb] at pc; exact pc
        | exc x' => rw [eb] at pc; exact pc
        | ok r =>
          rw [eb] at pc
          cases r with
          | nx e' => exact fun σ6 H06 H6 S6 => ⟨H06, e', S6, pc⟩
          | ct e' => exact fun σ6 H06 H6 S6 => ⟨H06, e', S6, pc⟩
          | bk e' => exact pc
          | rt d => exact pc
    · have et : t = items.length := by omega
      rw [et, List.drop_length] at pc
      exact .inl ⟨wk.stop t H3 sb (by omega), pc σ3 H0c H3 Sc⟩
end

/-! ### comprehensions -/
def wipeE (ev : Ev) : List Nat → Ev
  | [] => ev
  | v :: vs => (wipeE ev vs).set v none
theorem RpV.wipe {K : PySem.W.Frag} {H : Hp} {σ : L2.St} {ev : Ev} (h : RpV K H σ ev) : ∀ vs : List Nat, RpV K H (L2.wipe σ vs) (wipeE ev vs)
  | [] => h
  | v :: vs => by
    have ih := RpV.wipe h vs
    refine ⟨by unfold L2.wipe wipeE; rw [List.length_set, List.length_set]; exact ih.1, fun i d e => ?_⟩
    unfold wipeE at e
    rcases get_set e with ⟨_, _, e1⟩ | ⟨hne, e⟩
    · cases e1
    · obtain ⟨u, h1, h2⟩ := ih.2 i d e
      exact ⟨u, by unfold L2.wipe; rw [List.getElem?_set_ne hne]; exact h1, h2⟩
theorem RpV.set {K : PySem.W.Frag} {H : Hp} {σ : L2.St} {ev : Ev} (h : RpV K H σ ev) {d : D} {v : V} (r : Rp K H d v) (i : Nat) : RpV K H (σ.set i (some v)) (ev.set i (some d)) := by
  refine ⟨by rw [List.length_set, List.length_set]; exact h.1, fun j e hj => ?_⟩
  rcases get_set hj with ⟨rfl, hl, e1⟩ | ⟨hne, hj⟩
  · cases e1
    exact ⟨v, List.getElem?_set_self (by rw [← h.1]; exact hl), r⟩
  · obtain ⟨u, h1, h2⟩ := h.2 j e hj
    exact ⟨u, by rw [List.getElem?_set_ne hne]; exact h1, h2⟩
theorem wipe_get (σ : L2.St) : ∀ (vs : List Nat) (j : Nat), (L2.wipe σ vs)[j]? = if j ∈ vs ∧ j < σ.length then some none else σ[j]?
  | [], j => by simp [L2.wipe]
  | v :: vs, j => by
    unfold L2.wipe
    rw [List.getElem?_set, wipe_get σ vs j, L2.wipe_length]
    by_cases c : v = j
    · subst c
      rw [if_pos rfl]
      by_cases c2 : v < σ.length
      · rw [if_pos c2, if_pos ⟨List.mem_cons_self, c2⟩]
      · rw [if_neg c2, if_neg (fun h => c2 h.2)]
        exact (List.getElem?_eq_none (by omega)).symm
    · rw [if_neg c]
      have e : (j ∈ v :: vs ∧ j < σ.length) ↔ (j ∈ vs ∧ j < σ.length) := by
        rw [List.mem_cons]
        exact ⟨fun h => ⟨h.1.resolve_left (fun z => c z.symm), h.2⟩, fun h => ⟨.inr h.1, h.2⟩⟩
      by_cases c3 : j ∈ vs ∧ j < σ.length
      · rw [if_pos c3, if_pos (e.mpr c3)]
      · rw [if_neg c3, if_neg (fun h => c3 (e.mp h))]
theorem wipe_own (σ : L2.St) (vs : List Nat) (i : Nat) (x : Option V) (h : i ∈ vs) : L2.wipe ((L2.wipe σ vs).set i x) vs = L2.wipe σ vs := by
  apply List.ext_getElem?
  intro j
  rw [wipe_get, List.getElem?_set, wipe_get σ vs j, List.length_set, L2.wipe_length]
  by_cases c : j ∈ vs ∧ j < σ.length
  · rw [if_pos c, if_pos c]
  · rw [if_neg c, if_neg c]
    by_cases c2 : i = j
    · subst c2
      rw [if_pos rfl]
      have : ¬ i < σ.length := fun q => c ⟨h, q⟩
      rw [if_neg this]
      exact (List.getElem?_eq_none (by omega)).symm
    · rw [if_neg c2]
def mapF (p : D → Rs Bool) (f : D → Rs D) : List D → Rs (List D)
  | [] => .ok []
  | d :: ds => match p d with
    | .ok true => match f d with
      | .ok y => (mapF p f ds).bind fun ys => .ok (y :: ys)
      | _ => .bad
    | .ok false => mapF p f ds
    | _ => .bad
def eLc (fs : Ev → Rs (List D)) (vs : List Nat) (i : Nat) (gp : Ev → Rs Bool) (fe : Ev → Rs D) : Ev → Rs D := fun ev => (fs ev).bind fun items => if items.length ≤ 100000 then
    (mapF (fun d => gp ((wipeE ev vs).set i (some d))) (fun d => fe ((wipeE ev vs).set i (some d))) items).bind fun ys => .ok (.list ys) else .bad
def yesB : Ev → Rs Bool := fun _ => .ok true
theorem pts_yes {X : Cx} {E : XK} : PTs X [] (tB (zOf X E) yesB) := ⟨fun pins s σ H Q I q => by
  obtain ⟨H0, ev, sm, rv, p⟩ := q
  exact pts_nil.run pins s σ H Q I (p H (Same.refl _))⟩
theorem mapF_noexc (p : D → Rs Bool) (f : D → Rs D) : ∀ (ds : List D) (x : String), mapF p f ds ≠ .exc x
  | [], x, h => by simp [mapF] at h
  | d :: ds, x, h => by
    unfold mapF at h
    split at h
    · split at h
      · cases e : mapF p f ds with
        | ok ys => rw [e] at h; cases h
        | exc y => exact mapF_noexc p f ds y e
        | bad => rw [e] at h; cases h
      · cases h
    · exact mapF_noexc p f ds x h
    · cases h
theorem lc_of {Z : Wh} {fs : Ev → Rs (List D)} {vs : List Nat} {i : Nat} {gp : Ev → Rs Bool} {fe : Ev → Rs D} (hi : i ∈ vs) {σ : L2.St} {H : Hp} {Q : VK} (h : tO Z (eLc fs vs i gp fe) σ H Q) : tLc (iS Z fs) (gName i) (tB Z gp) (tE Z fe) vs σ H Q := by
  obtain ⟨H0, ev, s, rv, p⟩ := h
  refine ⟨H0, ev, s, rv, ?_⟩
  unfold eLc at p
  cases ef : fs ev with
  | bad => rw [ef] at p; exact p
  | exc x => rw [ef] at p; exact p
  | ok items =>
    rw [ef] at p
    intro J H1 H' y wk D0 nD
    have p := p.step y
    simp only [Rs.ok_bind] at p
    by_cases hl : items.length ≤ 100000
    · rw [if_pos hl] at p
      cases em : mapF (fun d => gp ((wipeE ev vs).set i (some d))) (fun d => fe ((wipeE ev vs).set i (some d))) items with
      | bad => rw [em] at p; exact p.elim
      | exc x => exact (mapF_noexc _ _ _ _ em).elim
      | ok fin =>
        rw [em] at p
        have rw0 : RpV Z.K H1 (L2.wipe σ vs) (wipeE ev vs) := (rv.mono y.a).wipe vs
        refine ⟨fun t m Hc => t ≤ items.length ∧ m = items.length - t ∧ ∃ H0c out acc rest, Ex2 H1 H' H0c Hc ∧ Hc D0 = some (.lst acc) ∧ H0c D0 = none ∧ RpL Z.K H0c out acc ∧ out.length ≤ t ∧
            mapF (fun d => gp ((wipeE ev vs).set i (some d))) (fun d => fe ((wipeE ev vs).set i (some d))) (items.drop t) = .ok rest ∧ out ++ rest = fin,
          ⟨items.length, Nat.zero_le _, by rw [Nat.sub_zero], H1, [], [], fin, Ex2.out y.c nD _, upd_same, y.c.free nD, .nil, Nat.zero_le _, by rw [List.drop_zero]; exact em, rfl⟩, ?_⟩
        rintro t m Hc ⟨ht, rfl, H0c, out, acc, rest, xc, hD, hD0, ro, lo, er, efin⟩
        have sb : Same H1 Hc := xc.a.trans xc.c
        by_cases hlt : t < items.length
        · have hd : items.drop t = items[t] :: items.drop (t + 1) := List.drop_eq_getElem_cons hlt
          rw [hd] at er
          refine .inr ⟨wk.go t Hc sb hlt, fun Hd => ∃ H0c out acc rest, Ex2 H1 H' H0c Hd ∧ Hd D0 = some (.lst acc) ∧ H0c D0 = none ∧ RpL Z.K H0c out acc ∧ out.length ≤ t + 1 ∧
            mapF (fun d => gp ((wipeE ev vs).set i (some d))) (fun d => fe ((wipeE ev vs).set i (some d))) (items.drop (t + 1)) = .ok rest ∧ out ++ rest = fin, fun Hd q => ⟨items.length - (t + 1), by omega, hlt, rfl, q⟩, fun x Hd hy => ?_⟩
          obtain ⟨H0d, yd, rd⟩ := wk.yld t Hc H0c x Hd items[t] xc.a xc.c (List.getElem?_eq_getElem hlt) hy
          refine ⟨wipe_own σ vs i _ hi, ?_⟩
          have rv1 : RpV Z.K H0d ((L2.wipe σ vs).set i (some x)) ((wipeE ev vs).set i (some items[t])) := (rw0.mono (xc.a.trans yd.a)).set rd i
          refine ⟨H0d, _, yd.c, rv1, ?_⟩
          unfold mapF at er
          cases eg : gp ((wipeE ev vs).set i (some items[t])) with
          | bad => rw [eg] at er; cases er
          | exc x => rw [eg] at er; cases er
          | ok k =>
            rw [eg] at er
            intro He se
            have ye : Ex2 H0c Hc H0d He := yd.trans (.up yd.c se)
            cases k with
            | false =>
              rw [if_neg Bool.false_ne_true]
              exact ⟨H0d, out, acc, rest, xc.trans ye, ye.b _ _ hD, (ye.d D0 _ hD).trans hD0, ro.mono ye.a, by omega, er, efin⟩
            | true =>
              rw [if_pos rfl]
              refine ⟨H0d, _, ye.c, rv1, ?_⟩
              simp only at er
              cases eb : fe ((wipeE ev vs).set i (some items[t])) with
              | bad => rw [eb] at er; cases er
              | exc x => rw [eb] at er; cases er
              | ok d =>
                rw [eb] at er
                simp only at er
                intro u H0f Hf yf rf
                have yt := ye.trans yf
                cases em2 : mapF (fun d => gp ((wipeE ev vs).set i (some d))) (fun d => fe ((wipeE ev vs).set i (some d))) (items.drop (t + 1)) with
                | bad => rw [em2] at er; cases er
                | exc x => exact (mapF_noexc _ _ _ _ em2).elim
                | ok rest2 =>
                  rw [em2] at er
                  cases er
                  have hD' := yt.b _ _ hD
                  have hD0' : H0f D0 = none := (yt.d D0 _ hD).trans hD0
                  refine ⟨acc, hD', by rw [ro.length]; exact Nat.lt_of_le_of_lt (show out.length ≤ 100000 by omega) (by decide), H0f, out ++ [d], acc ++ [u], rest2, ?_, upd_same, hD0', (ro.mono yt.a).append (.cons rf .nil), by rw [List.length_append]; simp only [List.length_singleton]; omega, rfl, ?_⟩
                  · have xt := xc.trans yt
                    refine ⟨xt.a, same_upd xt.b nD _, same_upd xt.c hD0' _, xt.d⟩
                  · rw [List.append_assoc]; exact efin
        · have et : t = items.length := by omega
          rw [et, List.drop_length] at er
          cases er
          rw [List.append_nil] at efin
          subst efin
          exact .inl ⟨wk.stop t Hc sb (by omega), p D0 H0c Hc xc nD hD0 (.inl ⟨out, acc, rfl, hD, ro⟩)⟩
    · rw [if_neg hl] at p; exact p.elim
section
variable {X : Cx} {E : XK} {elt tg iter : Expr} {ifs : List Expr} {scope : Scope} {own : List (Str × Nat)} {pos : Pos} {fs : Ev → Rs (List D)} {gp : Ev → Rs Bool} {fe : Ev → Rs D} {i : Nat}
theorem so_lc (hc : X.calm = true) (hN : X.N.Nodup) (hi : PI X tg iter (iS (zOf X E) fs)) (ok : BlkOk X.N X.env.scope scope own)
    (hg : ∀ (s : Shared) (H : Hp) (C : Addr) (cl : List (Str × Addr)) (fp : List Addr), PG (X.blk s H scope (compEnvC scope cl C X.env) fp) tg (gName i)) (ht : ∀ (s : Shared) (H : Hp) (C : Addr) (cl : List (Str × Addr)) (fp : List Addr), PTs (X.blk s H scope (compEnvC scope cl C X.env) fp) ifs (tB (zOf X E) gp))
    (he : ∀ (s : Shared) (H : Hp) (C : Addr) (cl : List (Str × Addr)) (fp : List Addr), PE (X.blk s H scope (compEnvC scope cl C X.env) fp) elt (tE (zOf X E) fe)) (hm : i ∈ own.map (·.2)) (hs : ∀ x, foldedSetIterable iter X.env x = pure x := by intro _; rfl) :
    SO X E (.ListComp elt [⟨tg, iter, ifs, 0⟩] scope pos) (eLc fs (own.map (·.2)) i gp fe) :=
  PE.weak (pe_lc hc hN hi ok hg ht he hs) fun _ _ _ q => lc_of hm q
/-- y = [..] on one line -/
theorem as_lc {k : Nat} {y : Str} {py : Pos} {spos : Pos} (hc : X.calm = true) (hN : X.N.Nodup) (hy : X.N[k]? = some y) (hyl : X.env.scope.names.lookup y = some .local)
    (hsw : swapsWith (.ListComp elt [⟨tg, iter, ifs, 0⟩] scope pos) (some (.Name y py)) spos.line X.env = pure true) (hi : PI X tg iter (iS (zOf X E) fs)) (ok : BlkOk X.N X.env.scope scope own)
    (hg : ∀ (s : Shared) (H : Hp) (C : Addr) (cl : List (Str × Addr)) (fp : List Addr), PG (X.blk s H scope (compEnvC scope cl C X.env) fp) tg (gName i)) (ht : ∀ (s : Shared) (H : Hp) (C : Addr) (cl : List (Str × Addr)) (fp : List Addr), PTs (X.blk s H scope (compEnvC scope cl C X.env) fp) ifs (tB (zOf X E) gp))
    (he : ∀ (s : Shared) (H : Hp) (C : Addr) (cl : List (Str × Addr)) (fp : List Addr), PE (X.blk s H scope (compEnvC scope cl C X.env) fp) elt (tE (zOf X E) fe)) (hm : i ∈ own.map (·.2)) (hs : ∀ x, foldedSetIterable iter X.env x = pure x := by intro _; rfl) :
    PS X (.Assign [.Name y py] (.ListComp elt [⟨tg, iter, ifs, 0⟩] scope pos) spos) (tAsg (tO (zOf X E) (eLc fs (own.map (·.2)) i gp fe)) (gName k)) :=
  PS.asg (ps_setLc hc hN hy hyl hsw hi ok hg ht he hs) fun _ _ _ q => lc_of hm q
end
theorem tO_toE {Z : Wh} {fe : Ev → Rs D} {σ : L2.St} {H : Hp} {Q : VK} (h : tE Z fe σ H Q) : tO Z fe σ H Q := by
  obtain ⟨H0, ev, s, r, p⟩ := h
  exact ⟨H0, ev, s, r, p.toO⟩
theorem PS.o2e {X : Cx} {E : XK} {st : Stmt} {i : Nat} {fe : Ev → Rs D} (h : PS X st (tAsg (tO (zOf X E) fe) (gName i))) : PS X st (tAsg (tE (zOf X E) fe) (gName i)) := PS.asg h fun _ _ _ q => tO_toE q
end Sk

namespace Sk
open PySem PySem.Spec PyProof.Rows L2

/-! ### x[i] = e, x a held list -/
def sIt (k : Nat) (fi fe : Ev → Rs D) : SEnv → Rs Fl := fun env => owL env[k]? fun ds => (fe (allV env)).bind fun d => if flat d = true then (fi (hidV env)).bind fun ix => (match ix with
  | .int j => (match ixN ds.length j with
    | some n => .ok (.nx (env.set k (.ow (.list (ds.set n d)))))
    | none => .bad)
  | _ => .bad) else .bad
section
variable {X : Cx} {E : XK} {om : Om} {o i e : Expr} {fi fe f1 f2 : Ev → Rs D} {pos tpos : Pos} {k : Nat}
theorem ss_it (hv : PE X o (tVar k)) (hi : SE X E i fi) (he : SE X E e fe) (ha : ∀ v, assign (.Subscript o i tpos) X.env v = (do
      let ov ← holding [v] (eval o X.env)
      let iv ← holding [v, ov] (eval i X.env)
      standAt tpos
      holding [v, ov, iv] (setItem ov iv v)
      release [v, ov, iv] []) := by intro _; rfl)
    (hs : swapsWithSole [.Subscript o i tpos] e pos.line X.env = pure false := by rfl) (hw : swappedStores [.Subscript o i tpos] e X.env = pure none := by rfl) (h1 : (assignEach [.Subscript o i tpos] X.env).map (·.2) = [assign (.Subscript o i tpos) X.env] := by rfl) :
    SS X E om (.Assign [.Subscript o i tpos] e pos) (sIt k fi fe) := by
  refine PS.weak (ps_asg he (pg_sub hv hi set_list ha) hs hw h1) fun Dn σ H ⟨B0, B, H0, env, S, p⟩ => ?_
  unfold sIt owL at p
  split at p
  · rename_i ds hd
    refine ⟨bor H0 H σ env, allV env, S.bor_s, S.allv, ?_⟩
    cases ef : fe (allV env) with
    | bad => rw [ef] at p; exact p
    | exc x => rw [ef] at p; exact p.excs S.x.b
    | ok d =>
      rw [ef] at p
      intro v Hb H' y r
      obtain ⟨y', hf⟩ := S.back y
      by_cases c : flat d = true
      · simp only [Rs.ok_bind, if_pos c] at p
        have S1 := S.grow y'
        have rd := Rp.flat_of hf c r
        obtain ⟨a, g1, g2, g3, g4⟩ := S1.ow k _ hd
        rcases g4 with ⟨es, vs, e1, e2, e3⟩ | ⟨ps, e1, _⟩
        · cases e1
          refine ⟨.ref a, g1, _, hidV env, S1.same, S1.hid, ?_⟩
          cases ei : fi (hidV env) with
          | bad => rw [ei] at p; exact p
          | exc x => rw [ei] at p; exact p.excs S1.x.b
          | ok ix =>
            rw [ei] at p
            intro w H2 H3 y2 r2
            cases ix with
            | int j =>
              simp only [Rs.ok_bind] at p
              cases en : ixN ds.length j with
              | none => rw [en] at p; exact p.elim
              | some n =>
                rw [en] at p
                refine ⟨a, vs, j, n, rfl, r2, y2.b _ _ e2, by rw [e3.length]; exact en, ?_⟩
                exact p σ H2 _ ((S1.grow y2).mut (d' := .list (ds.set n d)) hd g1 (.inl ⟨_, _, rfl, upd_same, (e3.mono y2.a).set n (rd.mono y2.a)⟩))
            | _ => exact p.elim
        · cases e1
      · simp only [Rs.ok_bind, if_neg c] at p
        exact p.elim
  · exact p.elim

/-! ### dicts from pairs of ints to ints -/
def ipOf : List (D × D) → Option IP
  | [] => some []
  | (.tuple [.int a, .int b], .int z) :: r => (ipOf r).map (((a, b), z) :: ·)
  | _ => none
theorem ipOf_some : ∀ {kvs : List (D × D)} {ps : IP}, ipOf kvs = some ps → kvs = ddt ps
  | [], ps, h => by simp [ipOf] at h; subst h; rfl
  | kv :: r, ps, h => by
    unfold ipOf at h
    split at h
    · rename_i e; cases e
    · rename_i a b z r' e
      cases e
      obtain ⟨qs, e1, rfl⟩ := Option.map_eq_some_iff.mp h
      rw [ipOf_some e1]; rfl
    · cases h
theorem ipOf_ddt : ∀ ps : IP, ipOf (ddt ps) = some ps
  | [] => rfl
  | ((a, b), z) :: r => by
    have ih := ipOf_ddt r
    show (ipOf (ddt r)).map (((a, b), z) :: ·) = _
    rw [ih]; rfl
def getIP (ps : IP) (k : Int × Int) : Option Int := (ps.find? fun p => decide (p.1 = k)).map (·.2)
def putIP (ps : IP) (k : Int × Int) (z : Int) : IP := if ps.any (fun p => decide (p.1 = k)) = true then ps.map (fun p => if p.1 = k then (p.1, z) else p) else ps ++ [(k, z)]
theorem ipkey (a b c d : Int) : (([.inl a, .inl b] : List Key) = [.inl c, .inl d]) ↔ ((a, b) = (c, d)) := by
  constructor
  · intro h
    simp only [List.cons.injEq, Sum.inl.injEq, and_true] at h
    rw [h.1, h.2]
  · intro h
    cases h; rfl
theorem getIP_val (k : Int × Int) : ∀ ps : IP, valV (dkv ps) [.inl k.1, .inl k.2] = (getIP ps k).map V.int
  | [] => rfl
  | ((a, b), z) :: r => by
    obtain ⟨c, d⟩ := k
    have ih := getIP_val (c, d) r
    by_cases h : (a, b) = (c, d)
    · show valV (([.inl a, .inl b], V.int z) :: dkv r) [.inl c, .inl d] = _
      rw [valV_pos ((ipkey a b c d).mpr h)]
      unfold getIP
      rw [List.find?_cons, decide_eq_true h]; rfl
    · show valV (([.inl a, .inl b], V.int z) :: dkv r) [.inl c, .inl d] = _
      rw [valV_neg (fun q => h ((ipkey a b c d).mp q))]
      unfold getIP
      rw [List.find?_cons, decide_eq_false h]
      exact ih
theorem putIP_val (k : Int × Int) (z : Int) (ps : IP) : putK (dkv ps) [.inl k.1, .inl k.2] (V.int z) = dkv (putIP ps k z) := by
  obtain ⟨c, d⟩ := k
  have ea : (dkv ps).any (fun kv => decide (kv.1 = [.inl c, .inl d])) = ps.any fun p => decide (p.1 = (c, d)) := by
    unfold dkv
    rw [List.any_map]
    congr 1
    funext p
    obtain ⟨⟨a, b⟩, y⟩ := p
    exact decide_eq_decide.mpr (ipkey a b c d)
  unfold putK putIP
  rw [ea]
  by_cases h : ps.any (fun p => decide (p.1 = (c, d))) = true
  · rw [if_pos h, if_pos h]
    unfold dkv
    rw [List.map_map, List.map_map]
    refine List.map_congr_left fun p _ => ?_
    obtain ⟨⟨a, b⟩, y⟩ := p
    by_cases q : (a, b) = (c, d)
    · simp only [Function.comp, if_pos q, if_pos ((ipkey a b c d).mpr q)]
    · simp only [Function.comp, if_neg q, if_neg (fun w => q ((ipkey a b c d).mp w))]
  · rw [if_neg h, if_neg h]
    unfold dkv
    rw [List.map_append]; rfl
theorem so_dnew : SO X E (.Dict [] [] pos) (eC (.dict [])) := PE.weak pe_dnewT fun σ H Q ⟨H0, ev, s, rv, p⟩ q n => p q H0 _ (Ex2.out s n _) n (s.free n) (.inr ⟨[], rfl, upd_same⟩)
def dicB {α : Type} (d : D) (f : IP → Rs α) : Rs α := match d with
  | .dict kvs => (match ipOf kvs with
    | some ps => f ps
    | none => .bad)
  | _ => .bad
def intB {α : Type} (d : D) (f : Int → Rs α) : Rs α := match d with
  | .int i => f i
  | _ => .bad
def eDg (fd f1 f2 : Ev → Rs D) : Ev → Rs D := fun ev => (fd ev).bind fun d => dicB d fun ps => (f1 ev).bind fun a => intB a fun a => (f2 ev).bind fun b => intB b fun b => rsI (getIP ps (a, b))
theorem se_dg {e1 e2 : Expr} {fd : Ev → Rs D} {kk : Nat} {tp : Pos} (hu : X.A.units + 1 < cLine) (ho : SE X E o fd) (h1 : SE X E e1 f1) (h2 : SE X E e2 f2) (hs : NoSl (.Tuple [e1, e2] kk tp) := by intro _ _; rfl)
    (hs1 : starEach [e1, e2] X.env = (false, eval e1 X.env) :: starEach [e2] X.env := by rfl) (hs2 : starEach [e2] X.env = (false, eval e2 X.env) :: starEach [] X.env := by rfl) :
    SE X E (.Subscript o (.Tuple [e1, e2] kk tp) pos) (eDg fd f1 f2) := by
  refine PE.weak (pe_dget hu ho (pe_tup (pa_cons h1 (pa_cons h2 pa_nil hs2) hs1)) hs) fun σ H Q q => ?_
  obtain ⟨H0, ev, s, rv, p⟩ := q
  refine ⟨H0, ev, s, rv, ?_⟩
  unfold eDg at p
  cases ea : fd ev with
  | bad => rw [ea] at p; exact p
  | exc x => rw [ea] at p; exact p
  | ok d =>
    rw [ea] at p
    intro v H1 H' x1 r1
    replace p := p.step x1
    cases d <;> first | exact p.elim | skip
    case dict kvs =>
      simp only [Rs.ok_bind, dicB] at p
      cases ek : ipOf kvs with
      | none => rw [ek] at p; exact p.elim
      | some ps =>
        rw [ek] at p
        rcases r1 with ⟨l, qs, rfl, hl, eq⟩ | ⟨_, _, _, _, ek2, _⟩
        rotate_left
        · rw [ek2] at ek; cases ek
        have : qs = ps := by
          have h := ipOf_ddt qs
          rw [← eq, ek] at h
          exact (Option.some.inj h).symm
        subst this
        simp only at p
        refine ⟨H1, ev, x1.c, rv.mono x1.a, ?_⟩
        cases eb : f1 ev with
        | bad => rw [eb] at p; exact p
        | exc x => rw [eb] at p; exact p
        | ok a =>
          rw [eb] at p
          intro v2 H2 H2' x2 r2
          replace p := p.step x2
          cases a <;> first | exact p.elim | skip
          case int a =>
            simp only [Rs.ok_bind, intB] at p
            refine ⟨H2, ev, x2.c, rv.mono (x1.a.trans x2.a), ?_⟩
            cases ec : f2 ev with
            | bad => rw [ec] at p; exact p
            | exc x => rw [ec] at p; exact p
            | ok b =>
              rw [ec] at p
              intro v3 H3 H3' x3 r3
              replace p := p.step x3
              cases b <;> first | exact p.elim | skip
              case int b =>
                simp only [Rs.ok_bind, intB] at p
                refine ⟨by show 2 ≤ sizeLine; decide, fun t nt => ?_⟩
                obtain ⟨z, ez, q⟩ := rsI_run x3.c p
                have hd : (upd H3' t (.tup [v2, v3])) l = some (.dT (dkv qs)) := same_new nt _ _ _ (x3.b _ _ (x2.b _ _ (x1.c _ _ hl)))
                have hk : (upd H3' t (.tup [v2, v3])) t = some (.tup (([.inl a, .inl b] : List Key).map kV)) := by rw [upd_same, show v2 = V.int a from r2, show v3 = V.int b from r3]; rfl
                have g := DGet.t hd hk
                rw [getIP_val (a, b), ez] at g
                refine ⟨l, V.int z, rfl, g, ?_⟩
                have p2 := p.step (Ex2.up x3.c (same_new nt (.tup [v2, v3])))
                rw [ez] at p2
                exact PostE.now (d := .int z) (x3.c.trans (same_new nt _)) p2 rfl
def owD {α : Type} (o : Option Sl) (k : IP → Rs α) : Rs α := match o with
  | some (.ow (.dict kvs)) => (match ipOf kvs with
    | some ps => k ps
    | none => .bad)
  | _ => .bad
def sDp (k : Nat) (f1 f2 fe : Ev → Rs D) : SEnv → Rs Fl := fun env => owD env[k]? fun ps => (fe (allV env)).bind fun d => intB d fun z => (f1 (hidV env)).bind fun a => intB a fun a => (f2 (hidV env)).bind fun b => intB b fun b =>
  if ps.length ≤ 100000 then .ok (.nx (env.set k (.ow (.dict (ddt (putIP ps (a, b) z)))))) else .bad
theorem ss_dp {e1 e2 : Expr} {kk : Nat} {tp : Pos} (hu : X.A.units + 1 < cLine) (hv : PE X o (tVar k)) (h1 : SE X E e1 f1) (h2 : SE X E e2 f2) (he : SE X E e fe) (hsw : swapsWith e (some (.Subscript o (.Tuple [e1, e2] kk tp) tpos)) pos.line X.env = pure false := by rfl)
    (hs1 : starEach [e1, e2] X.env = (false, eval e1 X.env) :: starEach [e2] X.env := by rfl) (hs2 : starEach [e2] X.env = (false, eval e2 X.env) :: starEach [] X.env := by rfl) :
    SS X E om (.Assign [.Subscript o (.Tuple [e1, e2] kk tp) tpos] e pos) (sDp k f1 f2 fe) := by
  refine PS.weak (ps_dput hu hv (pe_tup (pa_cons h1 (pa_cons h2 pa_nil hs2) hs1)) he hsw) fun Dn σ H ⟨B0, B, H0, env, S, p⟩ => ?_
  unfold sDp owD at p
  split at p
  · rename_i kvs hd
    cases ek : ipOf kvs with
    | none => rw [ek] at p; exact p.elim
    | some ps =>
      rw [ek] at p
      simp only at p
      have ekv := ipOf_some ek
      refine ⟨bor H0 H σ env, allV env, S.bor_s, S.allv, ?_⟩
      cases ef : fe (allV env) with
      | bad => rw [ef] at p; exact p
      | exc x => rw [ef] at p; exact p.excs S.x.b
      | ok d =>
        rw [ef] at p
        intro v Hb H' y r
        obtain ⟨y', hf⟩ := S.back y
        have S1 := S.grow y'
        cases d <;> first | exact p.elim | skip
        case int z =>
          simp only [Rs.ok_bind, intB] at p
          obtain ⟨l, g1, g2, g3, g4⟩ := S1.ow k _ hd
          rcases g4 with ⟨es, vs, e1', _⟩ | ⟨qs, e1', e2'⟩
          · cases e1'
          · have : qs = ps := by
              have h := ipOf_ddt qs
              have e3 : kvs = ddt qs := by injection e1'
              rw [← e3, ek] at h
              exact (Option.some.inj h).symm
            subst this
            refine ⟨.ref l, g1, _, hidV env, S1.same, S1.hid, ?_⟩
            cases eb : f1 (hidV env) with
            | bad => rw [eb] at p; exact p
            | exc x => rw [eb] at p; exact p.excs S1.x.b
            | ok a =>
              rw [eb] at p
              intro v2 H2 H2' x2 r2
              have S2 := S1.grow x2
              cases a <;> first | exact p.elim | skip
              case int a =>
                simp only [Rs.ok_bind, intB] at p
                refine ⟨H2, hidV env, S2.same, S2.hid, ?_⟩
                cases ec : f2 (hidV env) with
                | bad => rw [ec] at p; exact p
                | exc x => rw [ec] at p; exact p.excs S2.x.b
                | ok b =>
                  rw [ec] at p
                  intro v3 H3 H3' x3 r3
                  have S3 := S2.grow x3
                  cases b <;> first | exact p.elim | skip
                  case int b =>
                    simp only [Rs.ok_bind, intB] at p
                    by_cases c : qs.length ≤ 100000
                    · rw [if_pos c] at p
                      refine ⟨by show 2 ≤ sizeLine; decide, fun t nt => ?_⟩
                      have S4 := S3.up (same_new nt (.tup [v2, v3]))
                      have hdl : (upd H3' t (.tup [v2, v3])) l = some (.dT (dkv qs)) := same_new nt _ _ _ (x3.b _ _ (x2.b _ _ e2'))
                      have hk : (upd H3' t (.tup [v2, v3])) t = some (.tup (([.inl a, .inl b] : List Key).map kV)) := by rw [upd_same, show v2 = V.int a from r2, show v3 = V.int b from r3]; rfl
                      have g := DPut.t (v := V.int z) hdl hk (by unfold dkv; rw [List.length_map]; exact Nat.lt_of_le_of_lt c (by decide))
                      rw [putIP_val (a, b)] at g
                      rw [← (show v = V.int z from r)] at g
                      exact ⟨l, _, rfl, g, p σ H3 _ (S4.mut (d' := .dict (ddt (putIP qs (a, b) z))) hd g1 (.inr ⟨_, rfl, upd_same⟩))⟩
                    · rw [if_neg c] at p; exact p.elim
  · exact p.elim
end

/-! ### defs -/
/-- the same of a new list of new lists -/
def PostN (Z : Wh) (H0 H : Hp) (r : Rs D) (Q : VK) : Prop := match r with
  | .ok d => ∃ dss, d = onD dss ∧ ∀ p ps H0' H', Ex2 H0 H H0' H' → (∀ q ∈ p :: ps, H q = none ∧ H0' q = none) → OwN Z.K H0' H' dss p ps → Q (.ref p) H'
  | .exc x => ∀ H', Same H H' → EX Z.mg Z.E x H'
  | .bad => False
theorem PostN.step {Z : Wh} {H0 H H0' H' : Hp} {r : Rs D} {Q : VK} (x : Ex2 H0 H H0' H') (h : PostN Z H0 H r Q) : PostN Z H0' H' r Q := by
  cases r with
  | ok d =>
    obtain ⟨dss, e, h⟩ := h
    exact ⟨dss, e, fun p ps A B y n q => h p ps A B (x.trans y) (fun b hb => ⟨x.b.free (n b hb).1, (n b hb).2⟩) q⟩
  | exc e => exact fun B y => h B (x.b.trans y)
  | bad => exact h
def tN (Z : Wh) (fe : Ev → Rs D) : TE := fun σ H Q => ∃ H0 ev, Same H0 H ∧ RpV Z.K H0 σ ev ∧ PostN Z H0 H (fe ev) Q
abbrev SN (X : Cx) (E : XK) (e : Expr) (fe : Ev → Rs D) : Prop := PE X e (tN (zOf X E) fe)
def PostM (Z : Wh) (om : Om) (H0 H : Hp) (r : Rs D) (Q : VK) : Prop := match om with
  | .e => PostE Z H0 H r Q
  | .o => PostO Z H0 H r Q
  | .n => PostN Z H0 H r Q
theorem PostM.bad {Z : Wh} {om : Om} {H0 H : Hp} {Q : VK} (h : PostM Z om H0 H .bad Q) : False := by cases om <;> exact h
theorem PostM.exc {Z : Wh} {om : Om} {H0 H : Hp} {Q : VK} {x : String} (h : PostM Z om H0 H (.exc x) Q) : ∀ H', Same H H' → EX Z.mg Z.E x H' := by cases om <;> exact h
def spF (K : PySem.W.Frag) (mg : Str → Option Value) (om : Om) (R : List D → Rs D) : Sp := fun vs H Q E => ∃ H0 ds, Same H0 H ∧ RpL K H0 ds vs ∧ PostM ⟨K, mg, E⟩ om H0 H (R ds) Q
structure Kn (P : Program) (w : World) (K : PySem.W.Frag) (mg : Str → Option Value) (base : Heap) (CX : CXT) (k : Nat) (x : Str) (om : Om) (R : List D → Rs D) : Prop where
  ex : ∃ f fd ps, FnOk P w K mg base CX k f fd ps (spF K mg om R) ∧ mg x = some (.ref f) ∧ PySem.W.keepIn K (.ref f) = true ∧ Binds K fd ps []
section
variable {X : Cx} {E : XK} {CX : CXT} {k : Nat} {x : Str} {R : List D → Rs D} {p pos : Pos} {e : Expr} {es : List Expr} {fr : Ev → Rs (List D)}
theorem se_call (G : Kn X.prog X.w X.K X.mg X.base CX k x .e R) (hr : Room k X.A) (hx : Passes CX X E) (ha : SA X E (e :: es) fr) (hg : Gl X x := by rfl) (hdb : (x == ("__debug__" : Str)) = false := by decide)
    (he : starEach (e :: es) X.env = (false, eval e X.env) :: starEach es X.env := by rfl) (hpl : (backTo pos (starEach es X.env)).any (·.1) = false := by rfl) : SE X E (.Call (.Name x p) (e :: es) [] pos) (eA R fr) := by
  obtain ⟨f, fd, ps, F, hm, hk, hb⟩ := G.ex
  refine PE.weak (pe_call F hr hg hm hk hb .nil hx ha hdb he hpl) fun σ H Q q => ?_
  refine tA_of (P := fun H0 H r => PostE (zOf X E) H0 H r Q) q (fun _ _ _ _ _ x p => p.step x) (fun _ _ _ p => p) (fun _ _ p => p) fun H0 H xs as s r p => ?_
  rw [List.append_nil]
  exact ⟨H0, as, s, r, p⟩
theorem so_call (G : Kn X.prog X.w X.K X.mg X.base CX k x .o R) (hr : Room k X.A) (hx : Passes CX X E) (ha : SA X E (e :: es) fr) (hg : Gl X x := by rfl) (hdb : (x == ("__debug__" : Str)) = false := by decide)
    (he : starEach (e :: es) X.env = (false, eval e X.env) :: starEach es X.env := by rfl) (hpl : (backTo pos (starEach es X.env)).any (·.1) = false := by rfl) : SO X E (.Call (.Name x p) (e :: es) [] pos) (eA R fr) := by
  obtain ⟨f, fd, ps, F, hm, hk, hb⟩ := G.ex
  refine PE.weak (pe_call F hr hg hm hk hb .nil hx ha hdb he hpl) fun σ H Q q => ?_
  refine tA_of (P := fun H0 H r => PostO (zOf X E) H0 H r Q) q (fun _ _ _ _ _ x p => p.step x) (fun _ _ _ p => p) (fun _ _ p => p) fun H0 H xs as s r p => ?_
  rw [List.append_nil]
  exact ⟨H0, as, s, r, p⟩
end
def endF (om : Om) : Fl → Rs D
  | .rt d => .ok d
  | .nx _ => (match om with
    | .e => .ok .none
    | .o => .bad
    | .n => .bad)
  | .bk _ => .bad
  | .ct _ => .bad
def fnOf (m ar : Nat) (om : Om) (fs : SEnv → Rs Fl) (ds : List D) : Rs D := if ds.length = ar then (fs (ds.map Sl.sh ++ List.replicate (m - ar) Sl.un)).bind (endF om) else .bad
theorem start_ok {K : PySem.W.Frag} {H0 H : Hp} {N : List Str} {vs : List V} {ds : List D} (s : Same H0 H) (r : RpL K H0 ds vs) : Stt K H0 H H0 H (L2.start N vs) (ds.map Sl.sh ++ List.replicate (N.length - ds.length) Sl.un) := by
  have hl := r.length
  have noow : ∀ (i : Nat) (t : Sl), (ds.map Sl.sh ++ List.replicate (N.length - ds.length) Sl.un)[i]? = some t → (∃ d, t = .sh d) ∨ t = .un := fun i t e => by
    rw [List.getElem?_append] at e
    split at e
    · rw [List.getElem?_map] at e
      obtain ⟨y, _, z⟩ := Option.map_eq_some_iff.mp e
      exact .inl ⟨y, z.symm⟩
    · obtain ⟨h1, h2⟩ := List.getElem?_eq_some_iff.mp e
      rw [List.getElem_replicate] at h2
      exact .inr h2.symm
  refine ⟨Ex2.refl s, ?_, fun i d e => ?_, fun i d e => (noow i _ e).elim (fun ⟨_, z⟩ => Sl.noConfusion z) (fun z => Sl.noConfusion z), fun i d e => (noow i _ e).elim (fun ⟨_, z⟩ => Sl.noConfusion z) (fun z => Sl.noConfusion z), fun i j t u b h _ f _ => (noow i t h).elim (fun ⟨_, z⟩ => by subst z; exact f.elim) (fun z => by subst z; exact f.elim)⟩
  · unfold L2.start
    simp only [List.length_append, List.length_map, List.length_replicate, hl]
  · rw [List.getElem?_append] at e
    split at e
    · rename_i hi
      rw [List.getElem?_map] at e
      obtain ⟨y, hy, z⟩ := Option.map_eq_some_iff.mp e
      cases z
      obtain ⟨v, hv, rv⟩ := r.get hy
      refine ⟨v, ?_, rv⟩
      unfold L2.start
      rw [List.getElem?_append_left (by rw [List.length_map]; exact (List.getElem?_eq_some_iff.mp hv).1), List.getElem?_map, hv]; rfl
    · obtain ⟨h1, h2⟩ := List.getElem?_eq_some_iff.mp e
      rw [List.getElem_replicate] at h2
      cases h2
section
variable {P : Program} {w : World} {K : PySem.W.Frag} {mg : Str → Option Value} {base : Heap} {x qual : Str} {st : Stmt} {f : Addr} {fd : FuncData} {N ps : List Str} {k : Nat} {om : Om} {fs : SEnv → Rs Fl} {R : List D → Rs D}
theorem fn_body (hR : R = fnOf N.length ps.length om fs) {vs : List V} {H : Hp} {Q : VK} {E : XK} (h : spF K mg om R vs H Q E) : tS ⟨K, mg, E⟩ om fs { nx := fun _ H' => Q .non H', rt := Q } (L2.start N vs) H := by
  obtain ⟨H0, ds, s, r, p⟩ := h
  subst hR
  by_cases hl : ds.length = ps.length
  · refine ⟨H0, H, H0, _, start_ok s r, ?_⟩
    rw [hl]
    unfold fnOf at p
    simp only [if_pos hl] at p
    cases ef : fs (ds.map Sl.sh ++ List.replicate (N.length - ps.length) Sl.un) with
    | bad => rw [ef] at p; exact p.bad
    | exc e => rw [ef] at p; exact p.exc
    | ok fl =>
      rw [ef] at p
      cases fl with
      | nx env =>
        cases om with
        | o => exact p.elim
        | n => exact p.elim
        | e => exact fun σ H0' H' S => p .non H0' H' S.x rfl
      | rt d =>
        cases om with
        | o => exact fun a H0' H' y n n0 o => p a H0' H' y n n0 o
        | e => exact fun v H0' H' y r => p v H0' H' y r
        | n =>
          obtain ⟨dss, e, p⟩ := p
          exact ⟨dss, e, fun a qs H0' H' y n r => p a qs H0' H' y n r⟩
      | bk env => exact (p.bad).elim
      | ct env => exact (p.bad).elim
  · unfold fnOf at p
    simp only [if_neg hl] at p
    exact (p.bad).elim
theorem fn_len (hR : R = fnOf N.length ps.length om fs) : ∀ vs H Q E, spF K mg om R vs H Q E → vs.length = ps.length := fun vs H Q E h => by
  obtain ⟨H0, ds, s, r, p⟩ := h
  subst hR
  by_cases hl : ds.length = ps.length
  · rw [r.length]; exact hl
  · unfold fnOf at p
    simp only [if_neg hl] at p
    exact (p.bad).elim
/-- a def that lets nothing out -/
theorem fn_0 (F : Fun K x qual st f fd) (S : FnScope N ps (defScope st)) (hR : R = fnOf N.length ps.length om fs)
    (hb : ∀ (cdv : Value) (A : Around) (outer : List Env) (s : Shared) (H : Hp) (E : XK), Room k (A.deeper (envOfC qual (defScope st) s.heap.objs.size f cdv)) →
      PSs (cxOf CX0 P w K mg base N qual (defScope st) f cdv A outer s H E).nox (defBody st) (tS ⟨K, mg, E⟩ om fs)) : FnOk P w K mg base CX0 (k + 1) f fd ps (spF K mg om R) :=
  F.ok S (fn_len hR) fun cdv A outer s H vs Q E hr h => ⟨_, hb cdv A outer s H E hr, fn_body hR h⟩
/-- a def that may raise -/
theorem fn_X (F : Fun K x qual st f fd) (S : FnScope N ps (defScope st)) (hR : R = fnOf N.length ps.length om fs)
    (hb : ∀ (cdv : Value) (A : Around) (outer : List Env) (s : Shared) (H : Hp) (E : XK), Room k (A.deeper (envOfC qual (defScope st) s.heap.objs.size f cdv)) →
      PSs (cxOf (L2.CX P w) P w K mg base N qual (defScope st) f cdv A outer s H E) (defBody st) (tS ⟨K, mg, E⟩ om fs)) : FnOk P w K mg base (L2.CX P w) (k + 1) f fd ps (spF K mg om R) :=
  F.okX S (fn_len hR) fun cdv A outer s H vs Q E hr h => ⟨_, hb cdv A outer s H E hr, fn_body hR h⟩
/-- no promise at level 0 -/
theorem fn_none {CX : CXT} (hR : ∀ ds, R ds = .bad) : FnOk P w K mg base CX k f fd ps (spF K mg om R) := by
  have no : ∀ vs H Q E, ¬ spF K mg om R vs H Q E := fun vs H Q E h => by
    obtain ⟨H0, ds, s, r, p⟩ := h
    rw [hR] at p
    exact p.bad
  exact ⟨fun vs H Q E h => (no vs H Q E h).elim, fun A outer s H args us vs Q E _ _ _ _ h => (no vs H Q E h).elim⟩
end
/-- a def of the text: where it stands -/
structure Df (K : PySem.W.Frag) (mg : Str → Option Value) (x : Str) (st : Stmt) (ps : List Str) : Prop where
  ex : ∃ f fd, Fun K x x st f fd ∧ mg x = some (.ref f) ∧ Binds K fd ps []
/-- an own exception class -/
structure Xc (K : PySem.W.Frag) (mg : Str → Option Value) (x : Str) : Prop where
  ex : ∃ C, mg x = some (.ref C) ∧ PySem.W.excIn K C [.type "ValueError", .type "Exception", .type "BaseException", .type "object"] "ValueError.__new__" = true ∧ PySem.W.keepIn K (.ref C) = true ∧
    PySem.W.subIn K (.ref C) (.type "BaseException") = some true ∧ PySem.W.typeIn K (.ref C) = some (.type "type")
section
variable {P : Program} {w : World} {K : PySem.W.Frag} {mg : Str → Option Value} {base : Heap} {x : Str} {st : Stmt} {N ps : List Str} {om : Om}
theorem kn_0 {R : Nat → List D → Rs D} {fs : Nat → SEnv → Rs Fl} (Dx : Df K mg x st ps) (S : FnScope N ps (defScope st)) (h0 : ∀ ds, R 0 ds = .bad) (hR : ∀ n, R (n + 1) = fnOf N.length ps.length om (fs n))
    (hb : ∀ n f, mg x = some (.ref f) → Kn P w K mg base CX0 n x om (R n) → ∀ (cdv : Value) (A : Around) (outer : List Env) (s : Shared) (H : Hp) (E : XK), Room n (A.deeper (envOfC x (defScope st) s.heap.objs.size f cdv)) →
      PSs (cxOf CX0 P w K mg base N x (defScope st) f cdv A outer s H E).nox (defBody st) (tS ⟨K, mg, E⟩ om (fs n))) : ∀ n, Kn P w K mg base CX0 n x om (R n)
  | 0 => by
    obtain ⟨f, fd, F, hm, hbi⟩ := Dx.ex
    exact ⟨f, fd, ps, fn_none h0, hm, F.kp, hbi⟩
  | n + 1 => by
    have ih := kn_0 Dx S h0 hR hb n
    obtain ⟨f, fd, F, hm, hbi⟩ := Dx.ex
    exact ⟨f, fd, ps, fn_0 F S (hR n) (hb n f hm ih), hm, F.kp, hbi⟩
theorem kn_X {R : Nat → List D → Rs D} {fs : Nat → SEnv → Rs Fl} (Dx : Df K mg x st ps) (S : FnScope N ps (defScope st)) (h0 : ∀ ds, R 0 ds = .bad) (hR : ∀ n, R (n + 1) = fnOf N.length ps.length om (fs n))
    (hb : ∀ n f, mg x = some (.ref f) → Kn P w K mg base (L2.CX P w) n x om (R n) → ∀ (cdv : Value) (A : Around) (outer : List Env) (s : Shared) (H : Hp) (E : XK), Room n (A.deeper (envOfC x (defScope st) s.heap.objs.size f cdv)) →
      PSs (cxOf (L2.CX P w) P w K mg base N x (defScope st) f cdv A outer s H E) (defBody st) (tS ⟨K, mg, E⟩ om (fs n))) : ∀ n, Kn P w K mg base (L2.CX P w) n x om (R n)
  | 0 => by
    obtain ⟨f, fd, F, hm, hbi⟩ := Dx.ex
    exact ⟨f, fd, ps, fn_none h0, hm, F.kp, hbi⟩
  | n + 1 => by
    have ih := kn_X Dx S h0 hR hb n
    obtain ⟨f, fd, F, hm, hbi⟩ := Dx.ex
    exact ⟨f, fd, ps, fn_X F S (hR n) (hb n f hm ih), hm, F.kp, hbi⟩
end
/-! ### the law -/
def lawSp (K : PySem.W.Frag) : Sp := fun vs H Q _ => ∃ (a : Addr) (ns : List Int), vs = [.ref a] ∧ SqL K H a (ns.map V.int) ∧ ns.length ≤ 63 ∧ ∀ H', Q (.bl true) H'
theorem law_fin {P : Program} {w : World} {K : PySem.W.Frag} {mg : Str → Option Value} {base : Heap} {CX : CXT} {k : Nat} {f : Addr} {fd : FuncData} {ps : List Str} {R : List D → Rs D}
    (F : FnOk P w K mg base CX k f fd ps (spF K mg .e R)) (hR : ∀ ns : List Int, ns.length ≤ 63 → R [.list (ns.map .int)] = .ok (.bool true)) : FnOk P w K mg base CX k f fd ps (lawSp K) :=
  F.imp fun vs H Q E h => by
    obtain ⟨a, ns, rfl, hS, hl, q⟩ := h
    refine ⟨H, [.list (ns.map .int)], Same.refl H, .cons ⟨a, _, rfl, hS, RpL.of_ints ns⟩ .nil, ?_⟩
    show PostE _ _ _ (R [.list (ns.map .int)]) Q
    rw [hR ns hl]
    intro v H0' H' y r
    cases (show v = V.bl true from r)
    exact q H'
end Sk

namespace Sk
open PySem PySem.Spec PyProof.Rows L2 RT
section
variable {prog : Program} {w : World} {A : Around} {E : Value → Shared → Prop} {s : Shared}
/-- a fresh list is filled from a reversed one -/
theorem fill_rev {R : Result → Shared → Prop} {it l S : Addr} {items : Array Value} (hh : A.handled = none) (hit : s.heap.IsRevIter it l ((items.size : Int) - 1)) (hl : s.heap.IsList l items) (hne : l ≠ it) (hn : items.size ≤ sizeLine)
    (hS : s.heap.get? S = some { cls := .type "list", data := .seq #[] }) (hSl : S ≠ l) (hSi : S ≠ it)
    (hR : ∀ h' tk acc c, (∀ b o, b ≠ S → b ≠ it → s.heap.get? b = some o → h'.get? b = some o) → h'.get? S = some { cls := .type "list", dict := none, data := .seq acc c, slots := #[] } →
      ItemsOf (fun i v => items[items.size - 1 - i]? = some v) acc items.size → R (.ok (.ret .none)) { s with heap := h', toks := tk }) :
    wpAny (model prog w) A.in1 (Builtin.«list.__init__» ⟨[.ref S, .ref it], []⟩)
      (fun fin s' => match fin with | .done f => R (.ok f) s' | .again c' => c'.quiet = true ∧ codeAny (model prog w) A c' R s') (fun e s' => R (.error e) s') s := by
  have W := (Walks.listRev (prog := prog) (w := w) (A := A.in1) hh it l hne items).toS
  have hSf : S ∉ [it, l] := by simp only [List.mem_cons, List.not_mem_nil, or_false, not_or]; exact ⟨hSi, hSl⟩
  show wpAny _ A.in1 (Builtin.List.listItems (.ref S) >>= fun old => Builtin.List.listUpdate (.ref S) (fun _ => #[]) >>= fun _ => letGo old.toList.reverse >>= fun _ => Builtin.List.listExtendWith (.ref S) (.ref it) .none) _ _ s
  refine wpAny_bind ?_
  unfold Builtin.List.listItems
  refine wpAny_bind (wpAny_seqItems hS rfl (wpAny_pure ?_))
  show wpAny _ A.in1 (updateSeq S (fun _ => #[]) >>= fun _ => letGo (#[] : Array Value).toList.reverse >>= fun _ => Builtin.List.listExtendWith (.ref S) (.ref it) .none) _ _ s
  refine wpAny_bind (wpAny_updateSeq hS rfl ?_)
  have hS2 := Heap.get?_update_self (Obj.mapSeq (fun _ => (#[] : Array Value))) hS rfl
  have oth : ∀ b o, b ≠ S → s.heap.get? b = some o → (s.heap.update S (Obj.mapSeq (fun _ => (#[] : Array Value)))).get? b = some o := fun b o hb e => (Heap.get?_update_other _ _ (Ne.symm hb)).trans e
  refine wpAny_bind (wpAny_letGo ?_)
  generalize hh2 : s.heap.update S (Obj.mapSeq (fun _ => (#[] : Array Value))) = h2 at hS2 oth ⊢
  have hit2 : h2.IsRevIter it l ((items.size : Int) - 1) := hit.at fun o e => oth it o (Ne.symm hSi) e
  have hl2 : h2.IsList l items := hl.at fun o e => oth l o (Ne.symm hSl) e
  have hT : ({ s with heap := h2 } : Shared).TypeIs (.ref it) "list_reverseiterator" := Heap.IsRevIter.typeIs (s := { s with heap := h2 }) hit2
  have h1 : Builtin.List.listSameRef (.ref S) (.ref it) = false := by simp [Builtin.List.listSameRef, hSi]
  unfold Builtin.List.listExtendWith
  refine wpAny_bind (wpAny_typeOf hT ?_)
  rw [if_neg (by rw [h1]; decide)]
  refine wpAny_bind (wpAny_pyIter_revIter (s := { s with heap := h2 }) hit2 ?_)
  refine wpAny_bind (wpAny_holding ?_)
  unfold Builtin.List.listLengthHint
  refine wpAny_bind (wpAny_specialOf hT nolen_lri ?_)
  show wpAny _ A.in1 (specialOf (Value.ref it) (Str.ofString "__length_hint__") >>= _) _ _ _
  refine wpAny_bind (wpAny_specialOf hT hint_lri ?_)
  generalize hid : ("list_reverseiterator.__length_hint__" : String) = id0
  wp_delta
  rw [show splitId id0 = some ("list_reverseiterator", "__length_hint__") from by subst hid; decide +kernel]
  subst hid
  refine wpAny_bind (wpAny_isInstance (b := true) hT (by rw [isSubtype_type]; kernel_rfl) ?_)
  refine wpAny_pure ?_
  rw [if_neg (by decide)]
  have e0 : ((items.size : Nat) : Int) - 1 - ((0 : Nat) : Int) = (items.size : Int) - 1 := by omega
  refine wpAny_pure ⟨plainId_quiet F.plain_extend_loop _, codeAny_extend_loopS W hn S hSf _ items.size 0 _ _ _ rfl (Nat.zero_le _) ⟨Nat.zero_le _, by rw [e0]; exact hit2, hl2⟩ hS2 (ItemsOf.nil _) fun s' acc' c' hm hS' hacc => ?_⟩
  rw [Moved.eq_with hm]
  refine hR s'.heap s'.toks acc' c' (fun b o hb hb2 e => hm.heap b o (fun hmem => ?_) (oth b o hb e)) hS' hacc
  rcases List.mem_cons.mp hmem with e' | hmem
  · exact hb e'
  · exact hb2 (List.mem_singleton.mp hmem)
theorem call_listRev {Q : Value → Shared → Prop} {it l : Addr} {items : Array Value} (hh : A.handled = none) (hit : s.heap.IsRevIter it l ((items.size : Int) - 1)) (hl : s.heap.IsList l items) (hne : l ≠ it) (hn : items.size ≤ sizeLine)
    (hQ : ∀ h' tk acc c, (∀ b o, b ≠ it → s.heap.get? b = some o → h'.get? b = some o) → h'.get? s.heap.objs.size = some { cls := .type "list", dict := none, data := .seq acc c, slots := #[] } →
      ItemsOf (fun i v => items[items.size - 1 - i]? = some v) acc items.size → Q (.ref s.heap.objs.size) { s with heap := h', toks := tk }) :
    wpAny (model prog w) A (call (.type "list") [.ref it]) Q E s := by
  refine callType_codes (Q₁ := fun obj s₁ => obj = .ref s.heap.objs.size ∧ s₁ = { s with heap := s.heap.push { cls := .type "list", data := .seq #[] } }) F.called_list (F.typeCall_list_1 _) F.entry_list_init
    (code_list_new _ ⟨rfl, rfl⟩) fun obj s₁ h₁ => ?_
  obtain ⟨rfl, rfl⟩ := h₁
  have hS : (s.heap.push { cls := .type "list", data := .seq #[] }).get? s.heap.objs.size = some { cls := .type "list", data := .seq #[] } := Heap.get?_push_size _ rfl
  obtain ⟨ol, hol, _⟩ := id hl
  obtain ⟨oi, hoi, _⟩ := id hit
  refine ⟨⟨_, hS, rfl⟩, F.args_list_init_2 _ _, fill_rev (A := A.in1) hh (hit.at fun o e => Heap.get?_push_of_some _ e) (hl.push _) hne hn hS (Nat.ne_of_gt (Heap.lt_size hol)) (Nat.ne_of_gt (Heap.lt_size hoi)) fun h' tk acc c hk hS' hacc => ?_⟩
  exact ⟨rfl, hQ h' tk acc c (fun b o hb e => hk b o (Nat.ne_of_lt (Heap.lt_size e)) hb (Heap.get?_push_of_some _ e)) hS' hacc⟩
end
def tLRev (K : PySem.W.Frag) (te : TE) : TE := fun σ H Q => te σ H fun v H1 => ∃ (a : Addr) (xs : List V), v = .ref a ∧ SqL K H1 a xs ∧ ∀ p, H1 p = none → Q (.ref p) (upd H1 p (.lst xs.reverse))
section
variable {X : Cx} {E : XK} {e : Expr} {fe : Ev → Rs D}
theorem pe_lrev {te : TE} {p p2 pos pos2 : Pos} (hc : X.calm = true) (hg : Gl X "list") (hm : X.mg "list" = none) (hg2 : Gl X "reversed") (hm2 : X.mg "reversed" = none) (he : PE X e te)
    (hs : starEach [e] X.env = (false, eval e X.env) :: starEach [] X.env)
    (hs2 : starEach [.Call (.Name "reversed" p2) [e] [] pos2] X.env = (false, eval (.Call (.Name "reversed" p2) [e] [] pos2) X.env) :: starEach [] X.env) :
    PE X (.Call (.Name "list" p) [.Call (.Name "reversed" p2) [e] [] pos2] [] pos) (tLRev X.K te) := by
  refine ⟨fun pins s σ H Q I h => ?_⟩
  refine Call_ (ld_blt I hg hm boot_list (PyProof.Rows.callWith_type1 (args_cons (Call_ (ld_blt I hg2 hm2 PyProof.Rows.boot_reversed (PyProof.Rows.callWith_type1 (args_cons (thn (he.run pins s σ H _ I h) fun u s1 hh => args_nil ?_) hs) hs rfl))) hs2) hs2 rfl))
  obtain ⟨v, H1, I1, r1, a, xs, ev, hq, q⟩ := hh
  subst ev
  obtain rfl : u = Value.ref a := r1
  obtain ⟨its, rv, p', hz⟩ := I1.list hq
  refine call_reversed_list p'.isList (args_nil ?_)
  have I2 : Inv X pins σ H1 { s1 with heap := s1.heap.push (revObj a ((its.toArray.size : Int) - 1)) } := I1.kept (t' := s1.toks) fun b o e => Heap.get?_push_of_some _ e
  obtain ⟨f0, f1, f2, f3, f4, f5⟩ := I1.fpOk (H' := H1) (b := s1.heap.objs.size) (Nat.le_refl _) (I1.hok.fresh (Nat.le_refl _))
  have hl := p'.isList
  obtain ⟨ol, hol, _⟩ := id hl
  have hne : a ≠ s1.heap.objs.size := Nat.ne_of_lt (Heap.lt_size hol)
  have hn : its.toArray.size ≤ sizeLine := by rw [List.size_toArray, ← rv.length]; exact hz
  refine call_listRev (s := { s1 with heap := s1.heap.push (revObj a ((its.toArray.size : Int) - 1)) }) (I1.ok.hd hc) ⟨_, Heap.get?_push_size _ rfl, rfl, rfl⟩ (hl.push _) hne hn fun h' tk acc c hk hS hi => ?_
  generalize hp0 : (s1.heap.push (revObj a ((its.toArray.size : Int) - 1))) = hp at I2 hk hS ⊢
  have nP : H1 hp.objs.size = none := I2.hok.fresh (Nat.le_refl _)
  have neP : ∀ b o, hp.get? b = some o → b ≠ hp.objs.size := fun b o e => Nat.ne_of_lt (Heap.lt_size e)
  have neT : ∀ b u, H1 b = some u → b ≠ s1.heap.objs.size := fun b u e z => by rw [z, f0] at e; cases e
  have kU : ∀ b u, H1 b = some u → (upd H1 hp.objs.size (.lst xs.reverse)) b = some u := fun b u e => by rw [upd_ne (ne_of_none e nP)]; exact e
  have e2 : acc.toList = its.reverse := by
    apply List.ext_getElem?
    intro j
    by_cases hj : j < its.length
    · have hj2 : j < acc.size := by rw [hi.1, List.size_toArray]; exact hj
      have ej : acc[j]? = some acc[j] := by simp [hj2]
      have e2 : its.toArray[its.toArray.size - 1 - j]? = some acc[j] := hi.2 j _ ej
      rw [Array.getElem?_toList, ej, ← e2, List.getElem?_reverse hj]
      simp
    · rw [List.getElem?_eq_none (by rw [Array.length_toList, hi.1, List.size_toArray]; omega), List.getElem?_eq_none (by rw [List.length_reverse]; omega)]
  refine ⟨.ref hp.objs.size, upd H1 hp.objs.size (.lst xs.reverse), ?_, rfl, q _ nP⟩
  refine I2.step (g' := s1.gens) (d' := s1.drawn) (t' := tk) (ch := [s1.heap.objs.size]) (fun b hb => ?_) (fun b o _ _ hcb e _ => hk b o (fun z => hcb (by simp [z])) e) (fun b o _ _ hcb e _ => ⟨o.slots, hk b o (fun z => hcb (by simp [z])) e⟩)
    (fun b o _ e n => by rw [upd_ne (neP b o e)]; exact n) (fun b o hcb e => ⟨o, hk b o (fun z => hcb (by simp [z])) e⟩) (fun b xs e => kU b _ e) (fun b o u e => kU b _ e) (fun b ps e => ⟨#[], by rw [kU b _ e]; simp⟩) (fun m hm => ?_) (fun b u e => ?_) I2.bare
  · have e : b = s1.heap.objs.size := by simpa using hb
    subst e
    exact ⟨f3, f1, f4, f5⟩
  · obtain ⟨o, es, ep, ho, r⟩ := hm
    exact ⟨o, es, ep, hk _ o (Ne.symm f1) ho, r⟩
  · by_cases hb : b = hp.objs.size
    · subst hb
      rw [upd_same] at e
      cases e
      refine ⟨by rw [List.length_reverse]; exact hz, its.reverse, c, rv.reverse, ?_⟩
      rw [hS, ← e2, Array.toArray_toList]
    · rw [upd_ne hb] at e
      refine (I2.hok b u e).stay (fun d v hd q => hk d v ?_ q) (fun d q => kU d _ q) fun d xs q => kU d _ q
      rcases hd with z | z
      · rw [z]; exact neT b u e
      · exact neT d _ z
def opRev : D → Rs D
  | .list ds => .ok (.list ds.reverse)
  | _ => .bad
theorem so_lrev {p p2 pos pos2 : Pos} (hc : X.calm = true) (hm : X.mg "list" = none) (hm2 : X.mg "reversed" = none) (he : SE X E e fe) (hg : Gl X "list" := by rfl) (hg2 : Gl X "reversed" := by rfl)
    (hs : starEach [e] X.env = (false, eval e X.env) :: starEach [] X.env := by rfl)
    (hs2 : starEach [.Call (.Name "reversed" p2) [e] [] pos2] X.env = (false, eval (.Call (.Name "reversed" p2) [e] [] pos2) X.env) :: starEach [] X.env := by rfl) :
    SO X E (.Call (.Name "list" p) [.Call (.Name "reversed" p2) [e] [] pos2] [] pos) (e1 opRev fe) := by
  refine PE.weak (pe_lrev hc hg hm hg2 hm2 he hs hs2) fun σ H Q q => ?_
  refine one (P := fun H0 H r => PostO (zOf X E) H0 H r Q) q (fun _ _ _ _ _ x p => p.step x) (fun _ _ _ p => p) (fun _ _ p => p) fun H0 H x a s r p => ?_
  cases a <;> first | exact p.elim | skip
  case list ds =>
    obtain ⟨a, vs, rfl, h1, h2⟩ := r
    exact ⟨a, vs, rfl, s.seq h1, fun t nt => p t _ _ (Ex2.out s nt _) nt (s.free nt) (.inl ⟨_, _, rfl, upd_same, h2.reverse⟩)⟩
end
end Sk

namespace Sk
open PySem PySem.Spec PyProof.Rows L2
def mkL (ds : List D) : Rs D := if ds.length ≤ 1000 then .ok (.list ds) else .bad
def mkT (ds : List D) : Rs D := if ds.length ≤ 1000 then .ok (.tuple ds) else .bad
def opNeg : D → Rs D
  | .int i => .ok (.int (-i))
  | _ => .bad
def opPow : D → D → Rs D
  | .int i, .int j => if 0 ≤ j ∧ j ≤ 1000000 ∧ i.natAbs < 2 ^ 64 then .ok (.int (i ^ j.toNat)) else .bad
  | _, _ => .bad
def mulC (z : Str) (i : Int) : Bool := decide (-1000 ≤ i ∧ i ≤ 100000 ∧ z.length ≤ 100000 ∧ z.length * i.toNat ≤ 100000)
def opRep : D → D → Rs D
  | .str z, .int i => if mulC z i = true then .ok (.str (Txt.mul z i)) else .bad
  | _, _ => .bad
def opSlT : D → Option Int → Option Int → Rs D
  | .tuple ds, lo, hi => .ok (.tuple (cutD ds lo hi))
  | _, _, _ => .bad
def joinO (z : Str) (ds : List D) : Rs D := match strsOf ds with
  | some ys => if (ys.map (·.length)).sum + ys.length * z.length ≤ 100000 then .ok (.str (Txt.join z ys)) else .bad
  | none => .bad
def opJoin (z : Str) : List D → Rs D
  | [.list ds] => joinO z ds
  | _ => .bad
def opRepl (x : Str) : List D → Rs D
  | [.str y, .str z] => if (y == z) = false ∧ 0 < y.length ∧ 0 < z.length ∧ x.length + (x.length + 1) * z.length ≤ 100000 then .ok (.str (Txt.replace x y z)) else .bad
  | _ => .bad
def strB {α : Type} (d : D) (k : Str → Rs α) : Rs α := match d with
  | .str z => k z
  | _ => .bad
def eMet (op : Str → List D → Rs D) (fo : Ev → Rs D) (fr : Ev → Rs (List D)) : Ev → Rs D := fun ev => (fo ev).bind fun a => strB a fun z => (fr ev).bind fun r => op z r
abbrev eJoin := eMet opJoin
abbrev eRepl := eMet opRepl
theorem ne_opLt : ∀ a b x, opLt a b ≠ .exc x := by intro a b x; cases a <;> cases b <;> (intro h; cases h)
theorem ne_opLe : ∀ a b x, opLe a b ≠ .exc x := by intro a b x; cases a <;> cases b <;> (intro h; cases h)
theorem ne_gS1 {i : Nat} : ∀ d e x, gS1 i d e ≠ .exc x := by intro d e x h; cases h
theorem ne_gS2 {i j : Nat} : ∀ d e x, gS2 i j d e ≠ .exc x := by
  intro d e x h
  unfold gS2 at h
  split at h <;> cases h
section
variable {X : Cx} {E : XK} {a b c e : Expr} {fa fb fc fe : Ev → Rs D} {pos p p2 : Pos}
theorem se_neg (h : SE X E a fa) : SE X E (.UnaryOp .USub a pos) (e1 opNeg fa) := by
  refine PE.weak (pe_un un_neg h) fun σ H Q q => ?_
  refine one (P := fun H0 H r => PostE (zOf X E) H0 H r Q) q (fun _ _ _ _ _ x p => p.step x) (fun _ _ _ p => p) (fun _ _ p => p) fun H0 H x a s r p => ?_
  cases a <;> first | exact p.elim | skip
  case int i => exact ⟨i, r, PostE.now (d := .int (-i)) s p rfl⟩
theorem os_pow : OpS (zOf X E) (rI CPow fun i j => .int (i ^ j.toNat)) opPow := by
  intro H0 H x y a b Q s ra rb p
  cases a <;> cases b <;> first | exact p.elim | skip
  case int.int i j =>
    simp only [opPow] at p
    by_cases c : 0 ≤ j ∧ j ≤ 1000000 ∧ i.natAbs < 2 ^ 64
    · rw [if_pos c] at p
      exact ⟨i, j, ra, rb, c, PostE.now (d := .int (i ^ j.toNat)) s p rfl⟩
    · rw [if_neg c] at p; exact p.elim
abbrev rRepS : R2 := fun x y H Q => ∃ z i, x = .str z ∧ y = .int i ∧ mulC z i = true ∧ Q (.str (Txt.mul z i)) H
theorem ox_rep : OpR X (binaryOp .Mult) rRepS := by
  intro pins s σ H x y v u Q I rx ry h
  obtain ⟨z, i, rfl, rfl, hc, q⟩ := h
  obtain ⟨t, rfl⟩ := rx
  obtain ⟨t', rfl⟩ := ry
  have hc := of_decide_eq_true hc
  obtain ⟨h1, h2, h3, h4⟩ := hc
  refine PySem.SB.mul ⟨?_, fun h5 h6 => ?_, fun h5 h6 => ?_⟩ fun t' k => ⟨.str _, H, I.tok k, ⟨t', rfl⟩, q⟩
  · rw [decide_eq_false (by omega), decide_eq_false (by omega)]; rfl
  · have : (100000 : Int) ≤ (2 ^ 63 - 1) / i := by
      rw [Int.le_ediv_iff_mul_le (by omega)]
      omega
    omega
  · unfold Builtin.Str.tooLong
    have h7 : z.length * i.toNat ≤ sizeLine := sz5 h4
    simp only [decide_eq_false_iff_not]
    omega
theorem os_rep : OpS (zOf X E) rRepS opRep := by
  intro H0 H x y a b Q s ra rb p
  cases a <;> cases b <;> first | exact p.elim | skip
  case str.int z i =>
    simp only [opRep] at p
    by_cases c : mulC z i = true
    · rw [if_pos c] at p
      exact ⟨z, i, ra, rb, c, PostE.now (d := .str _) s p rfl⟩
    · rw [if_neg c] at p; exact p.elim
theorem se_chain {op op' : CmpOp} {r r' : R2} {o o' : D → D → Rs D} (h : OpR X (compareOp op) r) (k : OpS (zOf X E) r o) (h' : OpR X (compareOp op') r') (k' : OpS (zOf X E) r' o') (ne : ∀ a b x, o a b ≠ .exc x)
    (ha : SE X E a fa) (hb : SE X E b fb) (hc : SE X E c fc) (hm : lastMarks [op, op'] [b, c] = false := by with_unfolding_all rfl) : SE X E (.Compare a [op, op'] [b, c] pos) (eCh o o' fa fb fc) :=
  PE.weak (pe_chain h h' ha hb hc hm) fun _ _ _ q => chain_of k k' ne q
theorem sb_chain {op op' : CmpOp} {r r' : R2} {o o' : D → D → Rs D} (h : OpR X (compareOp op) r) (k : OpS (zOf X E) r o) (h' : OpR X (compareOp op') r') (k' : OpS (zOf X E) r' o') (ne : ∀ a b x, o a b ≠ .exc x)
    (ha : SE X E a fa) (hb : SE X E b fb) (hc : SE X E c fc) (hm : lastMarks [op, op'] [b, c] = false := by with_unfolding_all rfl) : SB X E (.Compare a [op, op'] [b, c] pos) (bE (eCh o o' fa fb fc)) :=
  PT.weak (pt_chain h h' ha hb hc hm) fun _ _ _ q => chain_of k k' ne (tB_of q)
theorem se_slT {lo hi : Option Expr} {fl fh : Ev → Rs (Option Int)} (he : SE X E e fe) (hl : PO X lo (pO (zOf X E) fl)) (hh : PO X hi (pO (zOf X E) fh)) : SE X E (.Subscript e (.Slice lo hi none p2) pos) (eSl opSlT fe fl fh) := by
  refine PE.weak (pe_slice sl_tupA he hl hh) fun σ H Q q => ?_
  refine sl_of (P := fun H0 H r => PostE (zOf X E) H0 H r Q) q (fun _ _ _ _ _ x p => p.step x) (fun _ _ _ p => p) (fun _ _ p => p) fun H0 H x a lo hi s ra p => ?_
  cases a <;> first | exact p.elim | skip
  case tuple ds =>
    obtain ⟨l, vs, rfl, h1, h2⟩ := ra
    refine ⟨l, vs, rfl, sqt_same s h1, fun hw => ?_, fun _ t nt => ?_⟩
    · refine PostE.now s p ⟨l, vs, rfl, h1, ?_⟩
      unfold cutD
      rw [← h2.length, hw.1, hw.2, List.drop_zero, Nat.sub_zero, List.take_of_length_le (by rw [h2.length]; exact Nat.le_refl _)]
      exact h2
    · refine p (.ref t) _ _ (Ex2.new s nt _) ⟨t, _, rfl, SqT.of upd_same, RpL.mono (same_new (s.free nt) _) ?_⟩
      unfold cutD cutV
      rw [← h2.length]
      exact (h2.drop _).take _
theorem se_join {o : Expr} {fo : Ev → Rs D} {apos : Pos} (ho : SE X E o fo) (he' : SE X E e fe) (hs : starEach [e] X.env = [(false, eval e X.env)] := by rfl) (hbase : attributeBase o "join" X.env (eval o X.env) = eval o X.env := by rfl) (hline : (apos.endLine == pos.line) = true := by rfl) :
    SE X E (.Call (.Attribute o "join" apos) [e] [] pos) (eJoin fo (aC fe aN)) := by
  refine PE.weak (pe_join ho he' hs hbase hline) fun σ H Q q => ?_
  obtain ⟨H0, ev, s, rv, p⟩ := q
  refine ⟨H0, ev, s, rv, ?_⟩
  unfold eJoin eMet at p
  cases ea : fo ev with
  | bad => rw [ea] at p; exact p
  | exc x => rw [ea] at p; exact p
  | ok d =>
    rw [ea] at p
    intro v H1 H' x1 r1
    replace p := p.step x1
    simp only [Rs.ok_bind, aC, aN, strB] at p
    cases d with
    | str z =>
      refine ⟨⟨z, r1⟩, H1, ev, x1.c, rv.mono x1.a, ?_⟩
      cases eb : fe ev with
      | bad => rw [eb] at p; exact p
      | exc x => rw [eb] at p; exact p
      | ok b =>
        rw [eb] at p
        intro u H2 H'' x2 r2
        replace p := p.step x2
        simp only [Rs.ok_bind] at p
        cases b with
        | list ds =>
          simp only [opJoin, joinO] at p
          cases es : strsOf ds with
          | none => rw [es] at p; exact p.elim
          | some ys =>
            rw [es] at p
            simp only at p
            by_cases c : (ys.map (·.length)).sum + ys.length * z.length ≤ 100000
            · rw [if_pos c] at p
              have e9 := strsOf_some es
              subst e9
              obtain ⟨l, vs, rfl, h1, h2⟩ := r2
              have ev9 := h2.strs
              subst ev9
              exact ⟨z, l, ys, r1, rfl, .inl (x2.c.seq h1), Nat.le_trans c (by decide), PostE.now (d := .str _) x2.c p rfl⟩
            · rw [if_neg c] at p; exact p.elim
        | _ => exact p.elim
    | _ => exact p.elim
end
theorem CX_false {P : Program} {w : World} {o : List Env} {H : Hp} {s s' : Shared} {e : Value} (h : L2.CX P w o H s (fun _ _ _ => False) e s') : False := by
  obtain ⟨_, _, _, _, _, _, _, _, _, _, _, _, h⟩ := h
  exact h
end Sk

namespace Sk
open PySem PySem.Spec PyProof.Rows L2
/-! ### lists of lists that this def alone holds -/
def innerOf : List D → Option (List (List D))
  | [] => some []
  | .list ds :: r => (innerOf r).map (ds :: ·)
  | _ :: _ => none
theorem innerOf_some : ∀ {ds : List D} {dss : List (List D)}, innerOf ds = some dss → ds = dss.map .list
  | [], dss, h => by simp [innerOf] at h; subst h; rfl
  | d :: r, dss, h => by
    cases d <;> simp [innerOf] at h
    obtain ⟨ms, e, rfl⟩ := h
    rw [innerOf_some e]; rfl
theorem innerOf_map : ∀ dss : List (List D), innerOf (dss.map .list) = some dss
  | [] => rfl
  | ds :: r => by simp [innerOf, innerOf_map r]
def onB {α : Type} (d : D) (k : List (List D) → Rs α) : Rs α := match d with
  | .list ds => (match innerOf ds with
    | some dss => k dss
    | none => .bad)
  | _ => .bad
theorem onB_on {α : Type} (dss : List (List D)) (k : List (List D) → Rs α) : onB (onD dss) k = k dss := by unfold onB onD; simp [innerOf_map]
theorem onB_inv {α : Type} {d : D} {k : List (List D) → Rs α} {r : Rs α} (h : onB d k = r) (hr : r ≠ .bad) : ∃ dss, d = onD dss ∧ k dss = r := by
  unfold onB at h
  split at h
  · rename_i ds
    cases e : innerOf ds with
    | none => rw [e] at h; exact absurd h.symm hr
    | some dss =>
      rw [e] at h
      exact ⟨dss, by rw [innerOf_some e]; rfl, h⟩
  · exact absurd h.symm hr
/-- several new lists -/
def PostAN (Z : Wh) (H0 H : Hp) (r : Rs (List D)) (Q : List V → Hp → Prop) : Prop := match r with
  | .ok ds => ∃ dss, ds = dss.map .list ∧ ∀ ps H0' H', Ex2 H0 H H0' H' → (∀ q ∈ ps, H q = none ∧ H0' q = none) → ps.Nodup → NsL Z.K H0' H' dss ps → Q (ps.map V.ref) H'
  | .exc x => ∀ H', Same H H' → EX Z.mg Z.E x H'
  | .bad => False
theorem PostAN.step {Z : Wh} {H0 H H0' H' : Hp} {r : Rs (List D)} {Q : List V → Hp → Prop} (x : Ex2 H0 H H0' H') (h : PostAN Z H0 H r Q) : PostAN Z H0' H' r Q := by
  cases r with
  | ok d =>
    obtain ⟨dss, e, h⟩ := h
    exact ⟨dss, e, fun ps A B y n nd q => h ps A B (x.trans y) (fun b hb => ⟨x.b.free (n b hb).1, (n b hb).2⟩) nd q⟩
  | exc e => exact fun B y => h B (x.b.trans y)
  | bad => exact h
def tAN (Z : Wh) (fe : Ev → Rs (List D)) : TA := fun σ H Q => ∃ H0 ev, Same H0 H ∧ RpV Z.K H0 σ ev ∧ PostAN Z H0 H (fe ev) Q
abbrev SAN (X : Cx) (E : XK) (es : List Expr) (fe : Ev → Rs (List D)) : Prop := PA X es (tAN (zOf X E) fe)
section
variable {X : Cx} {E : XK} {e : Expr} {es : List Expr} {fe : Ev → Rs D} {fr : Ev → Rs (List D)} {pos : Pos}
theorem san_nil : SAN X E [] aN := PA.weak pa_nil fun σ H Q ⟨H0, ev, s, rv, p⟩ => by
  obtain ⟨dss, e, p⟩ := p
  have : dss = [] := by cases dss <;> simp at e ⊢
  subst this
  exact p [] H0 H (Ex2.refl s) (fun q hq => nomatch hq) List.nodup_nil rfl
theorem san_cons (ha : SO X E e fe) (hr : SAN X E es fr) (hs : starEach (e :: es) X.env = (false, eval e X.env) :: starEach es X.env := by rfl) : SAN X E (e :: es) (aC fe fr) := by
  refine PA.weak (pa_cons ha hr hs) fun σ H Q ⟨H0, ev, s, rv, p⟩ => ?_
  refine ⟨H0, ev, s, rv, ?_⟩
  unfold aC at p
  cases ea : fe ev with
  | bad => rw [ea] at p; exact p
  | exc x => rw [ea] at p; exact p
  | ok d =>
    rw [ea] at p
    intro a H1 H' x1 n1 n2 o1
    refine ⟨H1, ev, x1.c, rv.mono x1.a, ?_⟩
    simp only [Rs.ok_bind] at p
    cases eb : fr ev with
    | bad => rw [eb] at p; exact p
    | exc x => rw [eb] at p; exact fun B y => p B (x1.b.trans y)
    | ok ds =>
      rw [eb] at p
      obtain ⟨dss, e1, p⟩ := p
      cases dss with
      | nil => cases e1
      | cons d0 dss =>
        rw [List.map_cons] at e1
        injection e1 with e1 e2
        subst e1 e2
        rcases o1 with ⟨es', vs, e3, h1, h2⟩ | ⟨ps, e3, _⟩
        · cases e3
          refine ⟨dss, rfl, fun qs H0' H'' y nq nd it => ?_⟩
          have na : a ∉ qs := fun hm => by
            have := (nq a hm).1
            rw [h1] at this; cases this
          refine p (a :: qs) H0' H'' (x1.trans y) (fun q hq => ?_) (List.nodup_cons.mpr ⟨na, nd⟩) ⟨a, qs, rfl, ⟨vs, y.b _ _ h1, h2.mono y.a⟩, it⟩
          rcases List.mem_cons.mp hq with rfl | hq
          · exact ⟨n1, (y.d q _ h1).trans n2⟩
          · exact ⟨x1.b.free (nq q hq).1, (nq q hq).2⟩
        · cases e3
/-- a list of new lists -/
theorem sn_lst (h : SAN X E es fr) : SN X E (.List es pos) (eA mkL fr) := by
  refine PE.weak (pe_lst h) fun σ H Q ⟨H0, ev, s, rv, p⟩ => ?_
  refine ⟨H0, ev, s, rv, ?_⟩
  unfold eA at p
  cases ea : fr ev with
  | bad => rw [ea] at p; exact p
  | exc x => rw [ea] at p; exact p
  | ok ds =>
    rw [ea] at p
    simp only [Rs.ok_bind, mkL] at p
    by_cases hl : ds.length ≤ 1000
    · rw [if_pos hl] at p
      obtain ⟨dss, e1, p⟩ := p
      have e2 : ds = dss.map .list := by injection e1
      refine ⟨dss, e2, fun ps H0' H' y n nd it => ?_⟩
      refine ⟨by rw [List.length_map, it.len, ← List.length_map (f := PyData.list), ← e2]; exact Nat.le_of_lt (small1000 hl), fun t nt => ?_⟩
      have nm : t ∉ ps := fun hm => by
        obtain ⟨vs, hv⟩ := it.mem t hm
        rw [nt] at hv; cases hv
      refine p t ps H0' (upd H' t (.lst (ps.map V.ref))) ⟨y.a, y.b.trans (same_new nt _), y.c.trans (same_new nt _), y.d⟩ (fun q hq => ?_) ⟨upd_same, List.nodup_cons.mpr ⟨nm, nd⟩, it.stay fun q hq => upd_ne fun z => nm (z ▸ hq)⟩
      rcases List.mem_cons.mp hq with rfl | hq
      · exact ⟨y.b.free nt, y.c.free nt⟩
      · exact n q hq
    · rw [if_neg hl] at p; exact p.elim
end
/-! ### statements -/
def sNn (i : Nat) (fe : Ev → Rs D) : SEnv → Rs Fl := fun env => (fe (hidV env)).bind fun d => onB d fun dss => .ok (.nx (env.set i (.on dss)))
def owN {α : Type} (o : Option Sl) (k : List (List D) → Rs α) : Rs α := match o with
  | some (.on dss) => k dss
  | _ => .bad
section
variable {X : Cx} {E : XK} {om : Om} {st : Stmt} {e : Expr} {fe : Ev → Rs D} {pos : Pos}
theorem ss_nn {i : Nat} (h : PS X st (tAsg (tN (zOf X E) fe) (gName i))) : SS X E om st (sNn i fe) := by
  refine PS.weak h fun Dn σ H ⟨B0, B, H0, env, S, p⟩ => ?_
  refine ⟨H0, hidV env, S.same, S.hid, ?_⟩
  unfold sNn at p
  cases ef : fe (hidV env) with
  | bad => rw [ef] at p; exact p
  | exc x => rw [ef] at p; exact p.excs S.x.b
  | ok d =>
    rw [ef] at p
    simp only [Rs.ok_bind] at p
    cases eo : onB d (fun dss => (Rs.ok (Fl.nx (env.set i (.on dss))) : Rs Fl)) with
    | bad => rw [eo] at p; exact p.elim
    | exc x =>
      obtain ⟨dss, _, e2⟩ := onB_inv eo (fun z => by cases z)
      cases e2
    | ok f =>
      obtain ⟨dss, e1, e2⟩ := onB_inv eo (fun z => by cases z)
      cases e2
      rw [eo] at p
      exact ⟨dss, e1, fun q qs H0' H' y n r => p _ H0' H' (S.set_on y i n r)⟩
theorem ss_rtN (he : SN X E e fe) : SS X E .n (.Return (some e) pos) (sRt fe) := by
  refine PS.weak (ps_ret he) fun Dn σ H ⟨B0, B, H0, env, S, p⟩ => ?_
  refine ⟨bor H0 H σ env, allV env, S.bor_s, S.allv, ?_⟩
  unfold sRt at p
  cases ef : fe (allV env) with
  | bad => rw [ef] at p; exact p
  | exc x => rw [ef] at p; exact p.excs S.x.b
  | ok d =>
    rw [ef] at p
    obtain ⟨dss, e1, p⟩ := p
    exact ⟨dss, e1, fun q qs H0' H' y n r => p q qs H0' H' (S.frzAll.x.trans y) (fun b hb => ⟨S.x.b.free (n b hb).1, (n b hb).2⟩) r⟩
end
/-! ### an inner list changes -/
theorem Stt.nmut {K : PySem.W.Frag} {B0 B H0 H : Hp} {σ : L2.St} {env : SEnv} (S : Stt K B0 B H0 H σ env) {k n : Nat} {dss : List (List D)} {p q : Addr} {ps : List Addr} {ds' : List D} {vs' : List V} (hi : env[k]? = some (.on dss)) (hp : σ[k]? = some (some (.ref p)))
    (o : OwN K H0 H dss p ps) (hq : ps[n]? = some q) (r : RpL K H0 ds' vs') : Stt K B0 B H0 (upd H q (.lst vs')) σ (env.set k (.on (dss.set n ds'))) := by
  have mq := List.mem_of_getElem? hq
  have ft : Ft H (.on dss) σ[k]? q := ⟨p, ps, hp, o.o, List.mem_cons_of_mem _ mq⟩
  have pq : p ≠ q := fun z => by subst z; exact (List.nodup_cons.mp o.nd).1 mq
  have o' : OwN K H0 (upd H q (.lst vs')) (dss.set n ds') p ps := ⟨by rw [upd_ne pq]; exact o.o, o.nd, o.it.set (List.nodup_cons.mp o.nd).2 hq r⟩
  obtain ⟨p1, ps1, g1, g2, g3⟩ := S.on k dss hi
  rw [hp] at g1
  cases g1
  have e4 := g2.o.symm.trans o.o
  injection e4 with e4
  injection e4 with e4
  have := refs_inj e4
  subst this
  refine S.change hi ft (fun _ z => Sl.noConfusion z) (fun _ z => Sl.noConfusion z) (fun e he => ?_) fun b hb => ?_
  · injection he with he
    subst he
    exact ⟨p, ps1, hp, o', g3⟩
  · obtain ⟨p2, ps2, f1, f2, f3⟩ := hb
    rw [hp] at f1
    cases f1
    rw [upd_ne pq] at f2
    exact ⟨p, ps2, hp, f2, f3⟩
theorem Stt.onK {K : PySem.W.Frag} {B0 B H0 H : Hp} {σ : L2.St} {env : SEnv} (S : Stt K B0 B H0 H σ env) {k : Nat} {dss : List (List D)} {p : Addr} (hi : env[k]? = some (.on dss)) (hp : σ[k]? = some (some (.ref p))) : ∃ ps, OwN K H0 H dss p ps := by
  obtain ⟨p1, ps1, g1, g2, g3⟩ := S.on k dss hi
  rw [hp] at g1
  cases g1
  exact ⟨ps1, g2⟩
def sNap (k : Nat) (fi fe : Ev → Rs D) : SEnv → Rs Fl := fun env => owN env[k]? fun dss => (fi (hidV env)).bind fun ix => intB ix fun j => match ixN dss.length j with
  | some n => (fe (hidV env)).bind fun d => if (dss.getD n []).length ≤ 100000 then .ok (.nx (env.set k (.on (dss.set n (dss.getD n [] ++ [d]))))) else .bad
  | none => .bad
section
variable {X : Cx} {E : XK} {om : Om} {o i e : Expr} {fi fe : Ev → Rs D} {pos spos apos cpos : Pos} {k : Nat}
theorem ss_nap (hv : PE X o (tVar k)) (hi : SE X E i fi) (he : SE X E e fe) (hpl : PlainIx i)
    (hbase : attributeBase (.Subscript o i spos) "append" X.env (eval (.Subscript o i spos) X.env) = eval (.Subscript o i spos) X.env := by rfl)
    (hfew : ((backTo cpos (starEach [e] X.env)).all (fun x => !x.1) && (backToKw cpos (keywordEach [] X.env)).all (fun x => x.1.isSome)
      && decide (([e] : List Expr).length + ([] : List Keyword).length + (if ([] : List Keyword).isEmpty then 0 else 1) < 30)) = true := by rfl)
    (hline : (apos.endLine == cpos.line) = true := by rfl) (hs : starEach [e] X.env = (false, eval e X.env) :: starEach [] X.env := by rfl) (hplain : (backTo cpos (starEach [] X.env)).any (·.1) = false := by rfl)
    (hsw : swapsWith (.Call (.Attribute (.Subscript o i spos) "append" apos) [e] [] cpos) none pos.line X.env = pure false := by rfl) :
    SS X E om (.Expr (.Call (.Attribute (.Subscript o i spos) "append" apos) [e] [] cpos) pos) (sNap k fi fe) := by
  refine PS.weak (ps_expr (pe_bm PySem.F.plainAttrs_list PySem.F.slot_list_append PySem.F.type_list_append mt_append (pe_ix ix_seq hv hi hpl) (pa_cons he pa_nil hs) hbase hfew hline hs hplain) hsw) fun Dn σ H ⟨B0, B, H0, env, S, p⟩ => ?_
  unfold sNap owN at p
  split at p
  · rename_i dss hd
    obtain ⟨a, ps0, h1, _, _⟩ := S.on k _ hd
    refine ⟨.ref a, h1, H0, hidV env, S.same, S.hid, ?_⟩
    cases ei : fi (hidV env) with
    | bad => rw [ei] at p; exact p
    | exc x => rw [ei] at p; exact p.excs S.x.b
    | ok ix =>
      rw [ei] at p
      intro w H2 H3 y2 r2
      cases ix with
      | int j =>
        simp only [Rs.ok_bind, intB] at p
        cases en : ixN dss.length j with
        | none => rw [en] at p; exact p.elim
        | some n =>
          rw [en] at p
          simp only at p
          have S1 := S.grow y2
          obtain ⟨ps, o1⟩ := S1.onK hd h1
          have hn : n < dss.length := by
            unfold ixN at en
            split at en
            · split at en
              · cases en; omega
              · cases en
            · split at en
              · cases en; omega
              · cases en
          obtain ⟨q, vs, hq, hqv, hr⟩ := o1.it.get (List.getElem?_eq_getElem hn)
          have hlen : ps.length = dss.length := o1.it.len
          have at1 : atI (ps.map V.ref) j = some (.ref q) := by
            unfold atI
            rw [List.length_map, hlen, en]
            simp [hq]
          refine .inl ⟨a, ps.map V.ref, j, .ref q, rfl, r2, SqL.of o1.o, at1, ?_⟩
          refine ⟨.inl ⟨rfl, vs, SqL.of hqv⟩, H2, hidV env, S1.same, S1.hid, ?_⟩
          cases ef : fe (hidV env) with
          | bad => rw [ef] at p; exact p
          | exc x => rw [ef] at p; exact p.excs S1.x.b
          | ok d =>
            rw [ef] at p
            intro v H0' H' y r
            have S2 := S1.grow y
            have gd : dss.getD n [] = dss[n] := by simp [hn]
            by_cases c : (dss.getD n []).length ≤ 100000
            · simp only [Rs.ok_bind, if_pos c] at p
              rw [gd] at c p
              refine ⟨q, vs, v, rfl, rfl, y.b _ _ hqv, by rw [hr.length]; exact Nat.lt_of_le_of_lt c (by decide), ?_⟩
              exact p _ H0' _ (S2.nmut hd h1 (o1.mono y.a y.b) hq ((hr.mono y.a).append (.cons r .nil)))
            · simp only [Rs.ok_bind, if_neg c] at p
              exact p.elim
      | _ => exact p.elim
  · exact p.elim
/-- x[i][j] = e -/
def sNit (k : Nat) (fi fj fe : Ev → Rs D) : SEnv → Rs Fl := fun env => owN env[k]? fun dss => (fe (allV env)).bind fun d => if flat d = true then (fi (hidV env)).bind fun ix => intB ix fun a => match ixN dss.length a with
  | some n => (fj (hidV env)).bind fun jx => intB jx fun b => (match ixN (dss.getD n []).length b with
    | some l => .ok (.nx (env.set k (.on (dss.set n ((dss.getD n []).set l d)))))
    | none => .bad)
  | none => .bad else .bad
theorem ixN_lt {m : Nat} {j : Int} {n : Nat} (en : ixN m j = some n) : n < m := by
  unfold ixN at en
  split at en
  · split at en
    · cases en; omega
    · cases en
  · split at en
    · cases en; omega
    · cases en
theorem ss_nit {j : Expr} {fj : Ev → Rs D} {tpos : Pos} (hv : PE X o (tVar k)) (hi : SE X E i fi) (hj : SE X E j fj) (he : SE X E e fe) (hpl : PlainIx i) (ha : ∀ v, assign (.Subscript (.Subscript o i spos) j tpos) X.env v = (do
      let ov ← holding [v] (eval (.Subscript o i spos) X.env)
      let iv ← holding [v, ov] (eval j X.env)
      standAt tpos
      holding [v, ov, iv] (setItem ov iv v)
      release [v, ov, iv] []) := by intro _; rfl)
    (hs : swapsWithSole [.Subscript (.Subscript o i spos) j tpos] e pos.line X.env = pure false := by rfl) (hw : swappedStores [.Subscript (.Subscript o i spos) j tpos] e X.env = pure none := by rfl)
    (h1 : (assignEach [.Subscript (.Subscript o i spos) j tpos] X.env).map (·.2) = [assign (.Subscript (.Subscript o i spos) j tpos) X.env] := by rfl) :
    SS X E om (.Assign [.Subscript (.Subscript o i spos) j tpos] e pos) (sNit k fi fj fe) := by
  refine PS.weak (ps_asg he (pg_sub (pe_ix ix_seq hv hi hpl) hj set_list ha) hs hw h1) fun Dn σ H ⟨B0, B, H0, env, S, p⟩ => ?_
  unfold sNit owN at p
  split at p
  · rename_i dss hd
    refine ⟨bor H0 H σ env, allV env, S.bor_s, S.allv, ?_⟩
    cases ef : fe (allV env) with
    | bad => rw [ef] at p; exact p
    | exc x => rw [ef] at p; exact p.excs S.x.b
    | ok d =>
      rw [ef] at p
      intro v Hb H' y r
      obtain ⟨y', hf⟩ := S.back y
      by_cases c : flat d = true
      · simp only [Rs.ok_bind, if_pos c] at p
        have S1 := S.grow y'
        have rd := Rp.flat_of hf c r
        obtain ⟨a, ps0, g1, _, _⟩ := S1.on k _ hd
        refine ⟨.ref a, g1, _, hidV env, S1.same, S1.hid, ?_⟩
        cases ei : fi (hidV env) with
        | bad => rw [ei] at p; exact p
        | exc x => rw [ei] at p; exact p.excs S1.x.b
        | ok ix =>
          rw [ei] at p
          intro w H2 H3 y2 r2
          cases ix with
          | int b =>
            simp only [Rs.ok_bind, intB] at p
            cases en : ixN dss.length b with
            | none => rw [en] at p; exact p.elim
            | some n =>
              rw [en] at p
              simp only at p
              have S2 := S1.grow y2
              obtain ⟨ps, o1⟩ := S2.onK hd g1
              have hn := ixN_lt en
              obtain ⟨q, vs, hq, hqv, hr⟩ := o1.it.get (List.getElem?_eq_getElem hn)
              have hlen : ps.length = dss.length := o1.it.len
              have at1 : atI (ps.map V.ref) b = some (.ref q) := by
                unfold atI
                rw [List.length_map, hlen, en]
                simp [hq]
              refine .inl ⟨a, ps.map V.ref, b, .ref q, rfl, r2, SqL.of o1.o, at1, ?_⟩
              refine ⟨_, hidV env, S2.same, S2.hid, ?_⟩
              have gd : dss.getD n [] = dss[n] := by simp [hn]
              cases ej : fj (hidV env) with
              | bad => rw [ej] at p; exact p
              | exc x => rw [ej] at p; exact p.excs S2.x.b
              | ok jx =>
                rw [ej] at p
                intro w2 H4 H5 y3 r3
                cases jx with
                | int b2 =>
                  simp only [Rs.ok_bind, intB] at p
                  cases el : ixN (dss.getD n []).length b2 with
                  | none => rw [el] at p; exact p.elim
                  | some l =>
                    rw [el] at p
                    rw [gd] at el p
                    have S3 := S2.grow y3
                    refine ⟨q, vs, b2, l, rfl, r3, y3.b _ _ hqv, by rw [hr.length]; exact el, ?_⟩
                    exact p σ H4 _ (S3.nmut hd g1 (o1.mono y3.a y3.b) hq ((hr.mono y3.a).set l (rd.mono (y2.a.trans y3.a))))
                | _ => exact p.elim
          | _ => exact p.elim
      · simp only [Rs.ok_bind, if_neg c] at p
        exact p.elim
  · exact p.elim
end
end Sk

namespace Sk
open PySem PySem.Spec PyProof.Rows L2
/-! ### more of lists of new lists -/
section
variable {K : PySem.W.Frag} {H0 H H0' H' : Hp}
theorem NsL.app : ∀ {as bs : List (List D)} {ps qs : List Addr}, NsL K H0 H as ps → NsL K H0 H bs qs → NsL K H0 H (as ++ bs) (ps ++ qs)
  | [], bs, ps, qs, h, t => by
    have h : ps = [] := h
    subst h; exact t
  | x :: r, bs, ps, qs, h, t => by
    obtain ⟨q, s, rfl, h1, h3⟩ := h
    exact ⟨q, s ++ qs, rfl, h1, NsL.app h3 t⟩
end
/-- a new list of new lists, read -/
def eN (fe : Ev → Rs D) : Ev → Rs D := fun ev => (fe ev).bind fun d => onB d fun _ => .ok d
theorem OwN.give {K : PySem.W.Frag} {H0 H B0 B : Hp} {dss : List (List D)} : ∀ (ps : List Addr), (∀ q ∈ ps, H q = none ∧ H0 q = none) → ∀ {H0' H' : Hp}, Ex2 H0 H H0' H' → (∀ q ∈ ps, H0' q = none ∧ ∃ o, H' q = some o) → ∃ H0'', Ex2 H0 H H0'' H' ∧ Same H0' H0'' ∧ ∀ q ∈ ps, H0'' q = H' q
  | [], _, H0', H', y, _ => ⟨H0', y, Same.refl _, fun q hq => nomatch hq⟩
  | q :: ps, n, H0', H', y, f => by
    obtain ⟨G, y2, s2, k⟩ := OwN.give (B0 := B0) (B := B) (K := K) (dss := dss) ps (fun r hr => n r (List.mem_cons_of_mem _ hr)) y fun r hr => f r (List.mem_cons_of_mem _ hr)
    obtain ⟨o, ho⟩ := (f q List.mem_cons_self).2
    cases e : G q with
    | some u =>
      refine ⟨G, y2, s2, fun r hr => ?_⟩
      rcases List.mem_cons.mp hr with rfl | hr
      · rw [e, y2.c _ _ e]
      · exact k r hr
    | none =>
      refine ⟨upd G q o, y2.add (n q List.mem_cons_self).1 e ho, s2.trans (same_new e o), fun r hr => ?_⟩
      by_cases c : r = q
      · subst c; rw [upd_same, ho]
      · rw [upd_ne c]
        rcases List.mem_cons.mp hr with rfl | hr
        · exact absurd rfl c
        · exact k r hr
section
variable {X : Cx} {E : XK} {CX : CXT} {k : Nat} {x : Str} {R : List D → Rs D} {p pos : Pos} {e : Expr} {es : List Expr} {fe : Ev → Rs D} {fr : Ev → Rs (List D)}
theorem SN.toE (h : SN X E e fe) : SE X E e (eN fe) := PE.weak h fun σ H Q ⟨H0, ev, s, r, p⟩ => by
  refine ⟨H0, ev, s, r, ?_⟩
  unfold eN at p
  cases ef : fe ev with
  | bad => rw [ef] at p; exact p
  | exc x => rw [ef] at p; exact p
  | ok d =>
    rw [ef] at p
    simp only [Rs.ok_bind] at p
    cases eo : onB d (fun _ => (Rs.ok d : Rs D)) with
    | bad => rw [eo] at p; exact p.elim
    | exc x =>
      obtain ⟨dss, _, e2⟩ := onB_inv eo (fun z => by cases z)
      cases e2
    | ok d' =>
      obtain ⟨dss, e1, e2⟩ := onB_inv eo (fun z => by cases z)
      cases e2
      rw [eo] at p
      refine ⟨dss, e1, fun a ps H0' H' y n o => ?_⟩
      have hs : ∀ q ∈ a :: ps, H0' q = none ∧ ∃ u, H' q = some u := fun q hq => ⟨(n q hq).2, by
        rcases List.mem_cons.mp hq with rfl | hq
        · exact ⟨_, o.o⟩
        · obtain ⟨vs, hv⟩ := o.it.mem q hq
          exact ⟨_, hv⟩⟩
      obtain ⟨G, y2, s2, k⟩ := OwN.give (B0 := H) (B := H) (K := X.K) (dss := dss) (a :: ps) (fun q hq => ⟨(n q hq).1, s.free (n q hq).1⟩) y hs
      refine p (.ref a) G H' y2 ?_
      subst e1
      exact ⟨a, ps.map V.ref, rfl, SqL.of ((k a List.mem_cons_self).trans o.o), o.it.rp s2 fun q hq => k q (List.mem_cons_of_mem _ hq)⟩
theorem sn_call (G : Kn X.prog X.w X.K X.mg X.base CX k x .n R) (hr : Room k X.A) (hx : Passes CX X E) (ha : SA X E (e :: es) fr) (hg : Gl X x := by rfl) (hdb : (x == ("__debug__" : Str)) = false := by decide)
    (he : starEach (e :: es) X.env = (false, eval e X.env) :: starEach es X.env := by rfl) (hpl : (backTo pos (starEach es X.env)).any (·.1) = false := by rfl) : SN X E (.Call (.Name x p) (e :: es) [] pos) (eA R fr) := by
  obtain ⟨f, fd, ps, F, hm, hk, hb⟩ := G.ex
  refine PE.weak (pe_call F hr hg hm hk hb .nil hx ha hdb he hpl) fun σ H Q q => ?_
  refine tA_of (P := fun H0 H r => PostN (zOf X E) H0 H r Q) q (fun _ _ _ _ _ x p => p.step x) (fun _ _ _ p => p) (fun _ _ p => p) fun H0 H xs as s r p => ?_
  rw [List.append_nil]
  exact ⟨H0, as, s, r, p⟩
end
theorem lcN_of {Z : Wh} {fs : Ev → Rs (List D)} {vs : List Nat} {i : Nat} {gp : Ev → Rs Bool} {fe : Ev → Rs D} (hi : i ∈ vs) {σ : L2.St} {H : Hp} {Q : VK} (h : tN Z (eLc fs vs i gp fe) σ H Q) : tLc (iS Z fs) (gName i) (tB Z gp) (tO Z fe) vs σ H Q := by
  obtain ⟨H0, ev, s, rv, p⟩ := h
  refine ⟨H0, ev, s, rv, ?_⟩
  unfold eLc at p
  cases ef : fs ev with
  | bad => rw [ef] at p; exact p
  | exc x => rw [ef] at p; exact p
  | ok items =>
    rw [ef] at p
    intro J H1 H' y wk D0 nD
    have p := p.step y
    simp only [Rs.ok_bind] at p
    by_cases hl : items.length ≤ 100000
    · rw [if_pos hl] at p
      cases em : mapF (fun d => gp ((wipeE ev vs).set i (some d))) (fun d => fe ((wipeE ev vs).set i (some d))) items with
      | bad => rw [em] at p; exact p.elim
      | exc x => exact (mapF_noexc _ _ _ _ em).elim
      | ok fin =>
        rw [em] at p
        obtain ⟨dss, e0, p⟩ := p
        have e0 : fin = dss.map .list := by injection e0
        have rw0 : RpV Z.K H1 (L2.wipe σ vs) (wipeE ev vs) := (rv.mono y.a).wipe vs
        refine ⟨fun t m Hc => t ≤ items.length ∧ m = items.length - t ∧ ∃ H0c out qs rest, Ex2 H1 H' H0c Hc ∧ Hc D0 = some (.lst (qs.map V.ref)) ∧ H0c D0 = none ∧ NsL Z.K H0c Hc out qs ∧ (∀ q ∈ qs, H' q = none ∧ H0c q = none) ∧ (D0 :: qs).Nodup ∧ out.length ≤ t ∧
            mapF (fun d => gp ((wipeE ev vs).set i (some d))) (fun d => fe ((wipeE ev vs).set i (some d))) (items.drop t) = .ok rest ∧ out.map .list ++ rest = fin,
          ⟨items.length, Nat.zero_le _, by rw [Nat.sub_zero], H1, [], [], fin, Ex2.out y.c nD _, upd_same, y.c.free nD, rfl, (fun q hq => nomatch hq), (by simp), Nat.zero_le _, by rw [List.drop_zero]; exact em, rfl⟩, ?_⟩
        rintro t m Hc ⟨ht, rfl, H0c, out, qs, rest, xc, hD, hD0, ro, nq, nd, lo, er, efin⟩
        have sb : Same H1 Hc := xc.a.trans xc.c
        by_cases hlt : t < items.length
        · have hd : items.drop t = items[t] :: items.drop (t + 1) := List.drop_eq_getElem_cons hlt
          rw [hd] at er
          refine .inr ⟨wk.go t Hc sb hlt, fun Hd => ∃ H0c out qs rest, Ex2 H1 H' H0c Hd ∧ Hd D0 = some (.lst (qs.map V.ref)) ∧ H0c D0 = none ∧ NsL Z.K H0c Hd out qs ∧ (∀ q ∈ qs, H' q = none ∧ H0c q = none) ∧ (D0 :: qs).Nodup ∧ out.length ≤ t + 1 ∧
            mapF (fun d => gp ((wipeE ev vs).set i (some d))) (fun d => fe ((wipeE ev vs).set i (some d))) (items.drop (t + 1)) = .ok rest ∧ out.map .list ++ rest = fin, fun Hd q => ⟨items.length - (t + 1), by omega, hlt, rfl, q⟩, fun x Hd hy => ?_⟩
          obtain ⟨H0d, yd, rd⟩ := wk.yld t Hc H0c x Hd items[t] xc.a xc.c (List.getElem?_eq_getElem hlt) hy
          refine ⟨wipe_own σ vs i _ hi, ?_⟩
          have rv1 : RpV Z.K H0d ((L2.wipe σ vs).set i (some x)) ((wipeE ev vs).set i (some items[t])) := (rw0.mono (xc.a.trans yd.a)).set rd i
          refine ⟨H0d, _, yd.c, rv1, ?_⟩
          unfold mapF at er
          cases eg : gp ((wipeE ev vs).set i (some items[t])) with
          | bad => rw [eg] at er; cases er
          | exc x => rw [eg] at er; cases er
          | ok k =>
            rw [eg] at er
            intro He se
            have ye : Ex2 H0c Hc H0d He := yd.trans (.up yd.c se)
            have keep : ∀ {Hz H0z : Hp}, Ex2 H0c Hc H0z Hz → ∀ q ∈ qs, H' q = none ∧ H0z q = none := fun {Hz H0z} yz q hq => by
              obtain ⟨ws, hw⟩ := ro.mem q hq
              exact ⟨(nq q hq).1, (yz.d q _ hw).trans (nq q hq).2⟩
            cases k with
            | false =>
              rw [if_neg Bool.false_ne_true]
              exact ⟨H0d, out, qs, rest, xc.trans ye, ye.b _ _ hD, (ye.d D0 _ hD).trans hD0, ro.mono ye.a ye.b, keep ye, nd, by omega, er, efin⟩
            | true =>
              rw [if_pos rfl]
              refine ⟨H0d, _, ye.c, rv1, ?_⟩
              simp only at er
              cases eb : fe ((wipeE ev vs).set i (some items[t])) with
              | bad => rw [eb] at er; cases er
              | exc x => rw [eb] at er; cases er
              | ok d =>
                rw [eb] at er
                simp only at er
                intro u H0f Hf yf nu nu0 ou
                have yt := ye.trans yf
                cases em2 : mapF (fun d => gp ((wipeE ev vs).set i (some d))) (fun d => fe ((wipeE ev vs).set i (some d))) (items.drop (t + 1)) with
                | bad => rw [em2] at er; cases er
                | exc x => exact (mapF_noexc _ _ _ _ em2).elim
                | ok rest2 =>
                  rw [em2] at er
                  cases er
                  have hD' := yt.b _ _ hD
                  have hD0' : H0f D0 = none := (yt.d D0 _ hD).trans hD0
                  have isl : ∃ ds, d = .list ds := by
                    have hm : d ∈ dss.map PyData.list := by rw [← e0, ← efin]; simp
                    obtain ⟨ds, _, e9⟩ := List.mem_map.mp hm
                    exact ⟨ds, e9.symm⟩
                  obtain ⟨ds, rfl⟩ := isl
                  rcases ou with ⟨es, ws, g1, g2, g3⟩ | ⟨ps9, g1, _⟩
                  · cases g1
                    have nuD : u ≠ D0 := fun z => by
                      subst z
                      rw [ye.b _ _ hD] at nu; cases nu
                    have nuq : u ∉ qs := fun hq => by
                      obtain ⟨ws, hw⟩ := ro.mem u hq
                      rw [ye.b _ _ hw] at nu; cases nu
                    have nDq : D0 ∉ qs := (List.nodup_cons.mp nd).1
                    refine ⟨qs.map V.ref, hD', ?_, H0f, out ++ [ds], qs ++ [u], rest2, ?_, by rw [upd_same, List.map_append]; rfl, hD0', ?_, fun q hq => ?_, ?_, by rw [List.length_append]; simp only [List.length_singleton]; omega, rfl, ?_⟩
                    · rw [List.length_map, ro.len]
                      exact Nat.lt_of_le_of_lt (show out.length ≤ 100000 by omega) (by decide)
                    · have xt := xc.trans yt
                      exact ⟨xt.a, same_upd xt.b nD _, same_upd xt.c hD0' _, xt.d⟩
                    · refine NsL.stay (NsL.app (ro.mono yt.a yt.b) ⟨u, [], rfl, ⟨ws, g2, g3⟩, rfl⟩) fun q hq => upd_ne fun z => ?_
                      subst z
                      rcases List.mem_append.mp hq with hq | hq
                      · exact nDq hq
                      · exact nuD (List.mem_singleton.mp hq).symm
                    · rcases List.mem_append.mp hq with hq | hq
                      · exact keep yt q hq
                      · obtain rfl := List.mem_singleton.mp hq
                        exact ⟨(xc.trans ye).b.free nu, nu0⟩
                    · rw [← List.cons_append]
                      refine List.nodup_append.mpr ⟨nd, by simp, fun a ha b hb => ?_⟩
                      obtain rfl := List.mem_singleton.mp hb
                      rcases List.mem_cons.mp ha with rfl | ha
                      · exact fun z => nuD z.symm
                      · exact fun z => nuq (z ▸ ha)
                    · rw [← efin]; simp
                  · cases g1
        · have et : t = items.length := by omega
          rw [et, List.drop_length] at er
          cases er
          rw [List.append_nil] at efin
          rw [e0] at efin
          have := (List.map_inj_right (fun a b e => by injection e)).mp efin
          subst this
          refine .inl ⟨wk.stop t Hc sb (by omega), p D0 qs H0c Hc xc (fun q hq => ?_) ⟨hD, nd, ro⟩⟩
          rcases List.mem_cons.mp hq with rfl | hq
          · exact ⟨nD, hD0⟩
          · exact nq q hq
    · rw [if_neg hl] at p; exact p.elim
section
variable {X : Cx} {E : XK} {elt tg iter : Expr} {ifs : List Expr} {scope : Scope} {own : List (Str × Nat)} {pos : Pos} {fs : Ev → Rs (List D)} {gp : Ev → Rs Bool} {fe : Ev → Rs D} {i : Nat}
theorem sn_lc (hc : X.calm = true) (hN : X.N.Nodup) (hi : PI X tg iter (iS (zOf X E) fs)) (ok : BlkOk X.N X.env.scope scope own)
    (hg : ∀ (s : Shared) (H : Hp) (C : Addr) (cl : List (Str × Addr)) (fp : List Addr), PG (X.blk s H scope (compEnvC scope cl C X.env) fp) tg (gName i)) (ht : ∀ (s : Shared) (H : Hp) (C : Addr) (cl : List (Str × Addr)) (fp : List Addr), PTs (X.blk s H scope (compEnvC scope cl C X.env) fp) ifs (tB (zOf X E) gp))
    (he : ∀ (s : Shared) (H : Hp) (C : Addr) (cl : List (Str × Addr)) (fp : List Addr), PE (X.blk s H scope (compEnvC scope cl C X.env) fp) elt (tO (zOf X E) fe)) (hm : i ∈ own.map (·.2)) (hs : ∀ x, foldedSetIterable iter X.env x = pure x := by intro _; rfl) :
    SN X E (.ListComp elt [⟨tg, iter, ifs, 0⟩] scope pos) (eLc fs (own.map (·.2)) i gp fe) :=
  PE.weak (pe_lc hc hN hi ok hg ht he hs) fun _ _ _ q => lcN_of hm q
end
/-! ### x.append(new list), x[i].pop() -/
section
variable {K : PySem.W.Frag} {B0 B H0 H H0' H' : Hp} {σ : L2.St} {env : SEnv}
/-- like change, and the slot takes the new object at u -/
theorem Stt.change2 (S : Stt K B0 B H0 H σ env) {i : Nat} {s s' : Sl} {q u : Addr} {o : HO} (hi : env[i]? = some s) (hq : Ft H s σ[i]? q) (hs : ∀ d, s' ≠ .sh d) (hu : ∀ (j : Nat) (t : Sl), env[j]? = some t → ¬ Ft H t σ[j]? u)
    (hw : ∀ d, s' = .ow d → ∃ p, σ[i]? = some (some (.ref p)) ∧ H0 p = none ∧ B p = none ∧ OwA K H0 (upd H q o) d p)
    (hn : ∀ dss, s' = .on dss → ∃ p ps, σ[i]? = some (some (.ref p)) ∧ OwN K H0 (upd H q o) dss p ps ∧ ∀ q ∈ p :: ps, H0 q = none ∧ B q = none)
    (hf : ∀ b, Ft (upd H q o) s' σ[i]? b → Ft H s σ[i]? b ∨ b = u) : Stt K B0 B H0 (upd H q o) σ (env.set i s') := by
  obtain ⟨n0, nB, _⟩ := S.ft_some hi hq
  refine ⟨⟨S.x.a, same_upd S.x.b nB o, same_upd S.same n0 o, S.x.d⟩, by rw [List.length_set]; exact S.len, fun j e hj => ?_, fun j e hj => ?_, fun j e hj => ?_, fun j k s1 t1 b hj hk a1 a2 => ?_⟩
  · rcases get_set hj with ⟨rfl, hl, e1⟩ | ⟨hne, hj⟩
    · exact absurd e1 (hs e)
    · exact S.sh j e hj
  · rcases get_set hj with ⟨rfl, hl, e1⟩ | ⟨hne, hj⟩
    · exact hw e e1
    · obtain ⟨u, g1, g2, g3, g4⟩ := S.ow j e hj
      have hup : u ≠ q := (S.other (o := o) hi hq hne hj).1 u g1
      refine ⟨u, g1, g2, g3, ?_⟩
      rcases g4 with ⟨ds, vs, rfl, e, r⟩ | ⟨ps, rfl, e⟩
      · exact .inl ⟨ds, vs, rfl, by rw [upd_ne hup]; exact e, r⟩
      · exact .inr ⟨ps, rfl, by rw [upd_ne hup]; exact e⟩
  · rcases get_set hj with ⟨rfl, hl, e1⟩ | ⟨hne, hj⟩
    · exact hn e e1
    · obtain ⟨p, ps, g1, g2, g3⟩ := S.on j e hj
      have hup : ∀ b ∈ p :: ps, b ≠ q := fun b hb => (S.other (o := o) hi hq hne hj).1 b ⟨p, ps, g1, g2.o, hb⟩
      exact ⟨p, ps, g1, ⟨by rw [upd_ne (hup p List.mem_cons_self)]; exact g2.o, g2.nd, g2.it.stay fun b hb => upd_ne (hup b (List.mem_cons_of_mem _ hb))⟩, g3⟩
  · have back : ∀ (j : Nat) (t : Sl), (env.set i s')[j]? = some t → Ft (upd H q o) t σ[j]? b → (∃ t', env[j]? = some t' ∧ Ft H t' σ[j]? b) ∨ (j = i ∧ b = u) := fun j t hj hb => by
      rcases get_set hj with ⟨rfl, hl, e1⟩ | ⟨hne, hj⟩
      · subst e1
        rcases hf b hb with h | h
        · exact .inl ⟨s, hi, h⟩
        · exact .inr ⟨rfl, h⟩
      · exact .inl ⟨t, hj, (S.other hi hq hne hj).2 b hb⟩
    rcases back j s1 hj a1 with ⟨t1', x1, x2⟩ | ⟨e1, e2⟩
    · rcases back k t1 hk a2 with ⟨t2', y1, y2⟩ | ⟨e3, e4⟩
      · exact S.ne j k t1' t2' b x1 y1 x2 y2
      · subst e4; exact (hu j t1' x1 x2).elim
    · rcases back k t1 hk a2 with ⟨t2', y1, y2⟩ | ⟨e3, e4⟩
      · subst e2; exact (hu k t2' y1 y2).elim
      · rw [e1, e3]
end
def sNp (k : Nat) (fe : Ev → Rs D) : SEnv → Rs Fl := fun env => owN env[k]? fun dss => (fe (hidV env)).bind fun d => lstB d fun ds => if dss.length ≤ 100000 then .ok (.nx (env.set k (.on (dss ++ [ds])))) else .bad
def sNpop (k : Nat) (fi : Ev → Rs D) : SEnv → Rs Fl := fun env => owN env[k]? fun dss => (fi (hidV env)).bind fun ix => intB ix fun j => match ixN dss.length j with
  | some n => if dss.getD n [] = [] then .bad else .ok (.nx (env.set k (.on (dss.set n (dss.getD n []).dropLast))))
  | none => .bad
section
variable {X : Cx} {E : XK} {om : Om} {o i e : Expr} {fi fe : Ev → Rs D} {pos spos apos cpos : Pos} {k : Nat}
/-- x.append(e), e a new list -/
theorem ss_np (hv : PE X o (tVar k)) (he : SO X E e fe)
    (hbase : attributeBase o "append" X.env (eval o X.env) = eval o X.env := by rfl)
    (hfew : ((backTo cpos (starEach [e] X.env)).all (fun x => !x.1) && (backToKw cpos (keywordEach [] X.env)).all (fun x => x.1.isSome)
      && decide (([e] : List Expr).length + ([] : List Keyword).length + (if ([] : List Keyword).isEmpty then 0 else 1) < 30)) = true := by rfl)
    (hline : (apos.endLine == cpos.line) = true := by rfl) (hs : starEach [e] X.env = (false, eval e X.env) :: starEach [] X.env := by rfl) (hplain : (backTo cpos (starEach [] X.env)).any (·.1) = false := by rfl)
    (hsw : swapsWith (.Call (.Attribute o "append" apos) [e] [] cpos) none pos.line X.env = pure false := by rfl) :
    SS X E om (.Expr (.Call (.Attribute o "append" apos) [e] [] cpos) pos) (sNp k fe) := by
  refine PS.weak (ps_expr (pe_bm PySem.F.plainAttrs_list PySem.F.slot_list_append PySem.F.type_list_append mt_append hv (pa_cons he pa_nil hs) hbase hfew hline hs hplain) hsw) fun Dn σ H ⟨B0, B, H0, env, S, p⟩ => ?_
  unfold sNp owN at p
  split at p
  · rename_i dss hd
    obtain ⟨a, ps, h1, o1, n1⟩ := S.on k _ hd
    refine ⟨.ref a, h1, .inl ⟨rfl, _, SqL.of o1.o⟩, ?_⟩
    refine ⟨H0, hidV env, S.same, S.hid, ?_⟩
    cases ef : fe (hidV env) with
    | bad => rw [ef] at p; exact p
    | exc x => rw [ef] at p; exact p.excs S.x.b
    | ok d =>
      rw [ef] at p
      intro u H0' H' y nu nu0 ou
      cases d with
      | list ds =>
        simp only [Rs.ok_bind, lstB] at p
        by_cases c : dss.length ≤ 100000
        · rw [if_pos c] at p
          rcases ou with ⟨es, ws, g1, g2, g3⟩ | ⟨ps9, g1, _⟩
          · cases g1
            have S1 := S.grow y
            have o2 := o1.mono y.a y.b
            have nua : u ≠ a := fun z => by
              subst z
              rw [o1.o] at nu; cases nu
            have nuq : u ∉ ps := fun hq => by
              obtain ⟨ws, hw⟩ := o1.it.mem u hq
              rw [hw] at nu; cases nu
            refine ⟨a, ps.map V.ref, .ref u, rfl, rfl, o2.o, by rw [List.length_map, o1.it.len]; exact Nat.lt_of_le_of_lt c (by decide), ?_⟩
            have oN : OwN X.K H0' (upd H' a (.lst (ps.map V.ref ++ [.ref u]))) (dss ++ [ds]) a (ps ++ [u]) := by
              refine ⟨by rw [upd_same, List.map_append]; rfl, ?_, ?_⟩
              · rw [← List.cons_append]
                refine List.nodup_append.mpr ⟨o1.nd, by simp, fun z hz b hb => ?_⟩
                obtain rfl := List.mem_singleton.mp hb
                rcases List.mem_cons.mp hz with rfl | hz
                · exact fun w => nua w.symm
                · exact fun w => nuq (w ▸ hz)
              · refine NsL.stay (NsL.app o2.it ⟨u, [], rfl, ⟨ws, g2, g3⟩, rfl⟩) fun q hq => upd_ne fun z => ?_
                subst z
                rcases List.mem_append.mp hq with hq | hq
                · exact (List.nodup_cons.mp o1.nd).1 hq
                · exact nua (List.mem_singleton.mp hq).symm
            refine p σ H0' _ (S1.change2 (u := u) hd ⟨a, ps, h1, o2.o, List.mem_cons_self⟩ (fun _ z => Sl.noConfusion z) (fun j t hj hp => ?_) (fun _ z => Sl.noConfusion z) (fun e he => ?_) fun b hb => ?_)
            · have h9 := (S.ft_some hj (S.ft_back y.b hj hp)).2.2
              rcases h9 with ⟨vs, e⟩ | ⟨ps, e⟩
              · rw [nu] at e; cases e
              · rw [nu] at e; cases e
            · injection he with he
              subst he
              refine ⟨a, ps ++ [u], h1, oN, fun q hq => ?_⟩
              rcases List.mem_cons.mp hq with rfl | hq
              · exact ⟨(y.d q _ o1.o).trans (n1 q List.mem_cons_self).1, (n1 q List.mem_cons_self).2⟩
              · rcases List.mem_append.mp hq with hq | hq
                · obtain ⟨ws, hw⟩ := o1.it.mem q hq
                  exact ⟨(y.d q _ hw).trans (n1 q (List.mem_cons_of_mem _ hq)).1, (n1 q (List.mem_cons_of_mem _ hq)).2⟩
                · obtain rfl := List.mem_singleton.mp hq
                  exact ⟨nu0, S.x.b.free nu⟩
            · obtain ⟨p2, ps2, f1, f2, f3⟩ := hb
              rw [h1] at f1
              cases f1
              rw [oN.o] at f2
              injection f2 with f2
              injection f2 with f2
              have := refs_inj f2
              subst this
              rcases List.mem_cons.mp f3 with rfl | f3
              · exact .inl ⟨b, ps, h1, o2.o, List.mem_cons_self⟩
              · rcases List.mem_append.mp f3 with f3 | f3
                · exact .inl ⟨a, ps, h1, o2.o, List.mem_cons_of_mem _ f3⟩
                · exact .inr (List.mem_singleton.mp f3)
          · cases g1
        · rw [if_neg c] at p; exact p.elim
      | _ => exact p.elim
  · exact p.elim
theorem ss_npop (hv : PE X o (tVar k)) (hi : SE X E i fi) (hpl : PlainIx i)
    (hbase : attributeBase (.Subscript o i spos) "pop" X.env (eval (.Subscript o i spos) X.env) = eval (.Subscript o i spos) X.env := by rfl)
    (hline : (apos.endLine == cpos.line) = true := by rfl)
    (hsw : swapsWith (.Call (.Attribute (.Subscript o i spos) "pop" apos) [] [] cpos) none pos.line X.env = pure false := by rfl) :
    SS X E om (.Expr (.Call (.Attribute (.Subscript o i spos) "pop" apos) [] [] cpos) pos) (sNpop k fi) := by
  refine PS.weak (ps_expr (pe_bm0 PySem.F.plainAttrs_list PySem.F.slot_list_pop PySem.F.type_list_pop mt_pop (pe_ix ix_seq hv hi hpl) hbase hline) hsw) fun Dn σ H ⟨B0, B, H0, env, S, p⟩ => ?_
  unfold sNpop owN at p
  split at p
  · rename_i dss hd
    obtain ⟨a, ps0, h1, _, _⟩ := S.on k _ hd
    refine ⟨.ref a, h1, H0, hidV env, S.same, S.hid, ?_⟩
    cases ei : fi (hidV env) with
    | bad => rw [ei] at p; exact p
    | exc x => rw [ei] at p; exact p.excs S.x.b
    | ok ix =>
      rw [ei] at p
      intro w H2 H3 y2 r2
      cases ix with
      | int j =>
        simp only [Rs.ok_bind, intB] at p
        cases en : ixN dss.length j with
        | none => rw [en] at p; exact p.elim
        | some n =>
          rw [en] at p
          simp only at p
          have S1 := S.grow y2
          obtain ⟨ps, o1⟩ := S1.onK hd h1
          have hn := ixN_lt en
          obtain ⟨q, vs, hq, hqv, hr⟩ := o1.it.get (List.getElem?_eq_getElem hn)
          have hlen : ps.length = dss.length := o1.it.len
          have at1 : atI (ps.map V.ref) j = some (.ref q) := by
            unfold atI
            rw [List.length_map, hlen, en]
            simp [hq]
          have gd : dss.getD n [] = dss[n] := by simp [hn]
          by_cases c : dss.getD n [] = []
          · rw [if_pos c] at p; exact p.elim
          · rw [if_neg c] at p
            rw [gd] at c p
            have hv1 : vs.length - 1 < vs.length := by
              have h8 : vs.length = dss[n].length := hr.length
              have h9 : dss[n].length ≠ 0 := fun z => c (List.length_eq_zero_iff.mp z)
              omega
            refine .inl ⟨a, ps.map V.ref, j, .ref q, rfl, r2, SqL.of o1.o, at1, ?_⟩
            refine ⟨.inl ⟨rfl, vs, SqL.of hqv⟩, q, vs, _, rfl, rfl, hqv, List.getElem?_eq_getElem hv1, ?_⟩
            exact p _ H2 _ (S1.nmut hd h1 o1 hq hr.dropLast)
      | _ => exact p.elim
  · exact p.elim
end
end Sk

namespace Sk
open PySem PySem.Spec PyProof.Rows L2
/-! ### a caught exception is tracked -/
section
variable {X : Cx} {pins : List (Addr × Obj)} {σ : L2.St} {H : Hp} {s : Shared}
theorem trackE (I : Inv X pins σ H s) {a : Addr} {cls : Value} {oe : Obj} {vs : Array Value} (ha : s.heap.get? a = some oe) (hz : Zc cls none oe) (hd : oe.data = .fields vs) (na : H a = none) (n0 : X.s_0.heap.get? a = none)
    (nL : a ≠ X.env.locals) (np : ∀ p ∈ X.pn ++ pins, p.1 ≠ a) : Inv (X.suite a (X.pn ++ pins)) [] σ (upd H a (ExE cls a)) s := by
  have up : ∀ b o, H b = some o → upd H a (ExE cls a) b = some o := fun b o e => by rw [upd_ne (ne_of_none e na)]; exact e
  have ne0 : ∀ b o, X.s_0.heap.get? b = some o → b ≠ a := fun b o e z => by
    subst z
    rw [n0] at e; cases e
  constructor
  · exact I.ok.suite a (X.pn ++ pins)
  · exact I.os
  · exact I.bare
  · constructor
    · exact I.base.keep
    · exact I.base.slot
    · intro b o e n m
      rw [upd_ne (ne0 b o e)]
      exact I.base.free b o e n m
    · exact I.base.there
    · intro b xs e
      exact up _ _ (I.base.tups b xs e)
    · intro b o xs e
      exact up _ _ (I.base.frzs b o xs e)
    · intro b ps e
      obtain ⟨m, q⟩ := I.base.tbls b ps e
      exact ⟨m, up _ _ q⟩
  · exact I.loc
  · exact I.cell
  · rw [upd_ne (Ne.symm nL)]
    exact I.free
  · intro x c e
    obtain ⟨w, o, ho, hw⟩ := I.cell x c e
    have : c ≠ a := fun z => by
      subst z
      rw [ha] at ho
      cases ho
      rw [hd] at hw; cases hw
    rw [upd_ne this]
    exact I.freeC x c e
  · intro p hp
    rw [List.append_nil] at hp
    obtain ⟨e, n, r⟩ := I.pin p hp
    refine ⟨e, ?_, r⟩
    rw [upd_ne (np p hp)]
    exact n
  · intro b u e
    by_cases hb : b = a
    · subst hb
      rw [upd_same] at e
      cases e
      exact ⟨⟨oe, vs, ha, hz, hd⟩, ⟨oe, ha⟩, fun h1 h2 ⟨o, v, q, r⟩ k => ⟨o, v, k o q, r⟩⟩
    · rw [upd_ne hb] at e
      refine ObjOk.stay (I.hok b u e) (fun c w _ q => q) (fun c q => up _ _ q) (fun c xs q => up _ _ q)
  · exact I.len
theorem backE {a : Addr} (I : Inv (X.suite a (X.pn ++ pins)) [] σ H s) (ok : X.Ok) : Inv X pins σ H s := by
  constructor
  · exact ok
  · exact I.os
  · exact I.bare
  · exact I.base
  · exact I.loc
  · exact I.cell
  · exact I.free
  · exact I.freeC
  · intro p hp
    exact I.pin p (List.mem_append_left _ hp)
  · exact I.hok
  · exact I.len
end
/-- the ends of a suite whose clause binds slot i -/
def unE (i : Nat) (D : Ends) : Ends := { nx := fun σ' H' => D.nx (σ'.set i none) H', rt := D.rt, bk := fun σ' H' => D.bk (σ'.set i none) H', ct := fun σ' H' => D.ct (σ'.set i none) H' }
/-- what the clauses wish -/
def wH (K : PySem.W.Frag) (i : Nat) (D : Ends) : List (Value × TS) → WX
  | [] => fun _ _ _ _ => False
  | (c, ts) :: r => fun cls d σ H => ∃ b, PySem.W.exmOne K cls c = some b ∧ (b = true → d = none ∧ ∀ a, H a = none → ts (unE i D) (σ.set i (some (.ref a))) (upd H a (ExE cls a))) ∧ (b = false → wH K i D r cls d σ H)
inductive HdsE (X : Cx) (n : Str) : List ExceptHandler → List (Value × TS) → Prop
  | nil : HdsE X n [] []
  | cons {x : Str} {c : Value} {ts : TS} {st : Stmt} {suite : List Stmt} {p1 p2 : Pos} {hds : List ExceptHandler} {l : List (Value × TS)} (hc : Names X x c) (hsu : ∀ (a : Addr) (pn : List (Addr × Obj)), PSs (X.suite a pn) (st :: suite) ts)
      (r : HdsE X n hds l) : HdsE X n (.ExceptHandler (some (.Name x p1)) (some n) (st :: suite) p2 :: hds) ((c, ts) :: l)
section
variable {X : Cx} {n : Str} {i : Nat} {body : List Stmt} {hd0 : ExceptHandler} {hds : List ExceptHandler} {l : List (Value × TS)} {pos : Pos} {tb : WX → TS}
theorem ps_tryE (hs : X.stack = X.env :: X.outer) (hf : X.env.frame = some X.env.locals) (hx : X.ex = []) (hN : X.N.Nodup) (hi : X.N[i]? = some n) (hln : X.env.kindOf n = some .local)
    (hb : ∀ (W : WX) (pn : List (Addr × Obj)) (xe : Value → Shared → Prop), Takes (X.tr pn xe) W → PSs (X.tr pn xe) body (tb W)) (hh : HdsE X n (hd0 :: hds) l) :
    PS X (.Try body (hd0 :: hds) [] [] pos) (fun D σ H => tb (wH X.K i D l) D σ H) := by
  constructor
  intro pins s σ H D I h
  have ok := I.ok
  have hfr : X.A.frames = some (X.env :: X.outer) := by rw [← hs]; exact ok.frames
  refine wpAny_Try_except (wpAny_mono ((hb (wH X.K i D l) (X.pn ++ pins) _ (fun u s' xx => ?_)).run [] s σ H D (I.toTry _) h) (fun f s1 hsp => ?_) (fun e s1 he => he))
  · obtain ⟨a, B, sI, pins', σ', H', cls, d, rfl, J', nb, up, sky, na, os, ag, w⟩ := xx
    have J : Inv X pins σ' H' sI := J'.ofTry ok
    refine Sky.land (B := B) (L := X.env.locals) (Z := Zc cls d) Zc.steady hfr hf (by rw [← hs]; exact sky) fun h3 fl3 up3 => ?_
    have J3 : Inv X pins σ' H' { s' with heap := h3 } := J.landed nb fl3.1 (up.trans up3) os ag
    obtain ⟨oe3, vs3, he3, hz3, hd3⟩ := fl3.there
    have nfr : a ∉ frs (X.env :: X.outer) := fun hm => by
      obtain ⟨_, o', e', hnf⟩ := fl3.2.2.1.mem hm
      rw [he3] at e'; cases e'
      exact hnf _ hd3
    have nL : a ≠ X.env.locals := fun z => nfr (List.mem_filterMap.mpr ⟨X.env, List.mem_cons_self, by rw [hf, z]⟩)
    have nI : sI.heap.get? a = none := by
      cases e : sI.heap.get? a with
      | none => rfl
      | some o =>
        have z := nb a o e (by rw [hs]; exact nfr)
        rw [fl3.2.1] at z; cases z
    have n0 : X.s_0.heap.get? a = none := by
      cases e : X.s_0.heap.get? a with
      | none => rfl
      | some o =>
        obtain ⟨o', z⟩ := J.base.there a o e (by rw [hx]; exact fun y => nomatch y)
        rw [nI] at z; cases z
    have npn : ∀ p ∈ X.pn ++ pins, p.1 ≠ a := fun p hp z => by
      have q := (J.pin p hp).1
      rw [z, nI] at q; cases q
    have nF : a ∉ X.fs := fun hm => by
      obtain ⟨e, he, q⟩ := List.mem_filterMap.mp hm
      exact nfr (List.mem_filterMap.mpr ⟨e, List.mem_cons_of_mem _ he, q⟩)
    have S3 := J3.suite he3 hd3 na nL nF
    have LT : PySem.W.Looks (model X.prog X.w) h3 (typeOf (.ref a)) cls := fun A Q E s k q => wpAny_typeOf_ref (k _ _ he3) (by rw [hz3.1]; exact q)
    have go : ∀ {hds' : List ExceptHandler} {l' : List (Value × TS)}, HdsE X n hds' l' → wH X.K i D l' cls d σ' H' →
        wpAny (model X.prog X.w) X.A (handleBy (.ref a) X.env hds') (SP X pins D) X.xe { s' with heap := h3 } := by
      intro hds' l' hk
      induction hk with
      | nil => exact fun w => w.elim
      | @cons x c ts st suite p1 p2 hds2 l2 hc hsu r ih =>
        rintro ⟨b, hb1, hyes, hno⟩
        refine wpAny_handleBy_cons (codeAny_handlers_test ?_) (by intro q; cases q)
        have LM := PySem.W.exm_one (M := model X.prog X.w) (J3.kIn) LT hb1
        have test : ∀ {Q : Value → Shared → Prop} {E : Value → Shared → Prop}, Q c { s' with heap := h3 } → wpAny (model X.prog X.w) (X.A.mark (some (.ref a))) (eval (.Name x p1) X.env) Q E { s' with heap := h3 } := by
          intro Q E q
          obtain ⟨hg, hdbg, hm | ⟨hm, hv, hnn⟩⟩ := hc
          · exact ld_glob (X := X.suite a ((a, oe3) :: (X.pn ++ pins))) S3 hg hm q hdbg
          · exact ld_blt (X := X.suite a ((a, oe3) :: (X.pn ++ pins))) S3 hg hm hv q hnn hdbg
        refine test (LM.here ?_)
        cases b with
        | false => exact ih (hno rfl)
        | true =>
          obtain ⟨hd', hy2⟩ := hyes rfl
          subst hd'
          refine codeAny_handlers_suite_as (HandSPX.lands_againZ fl3 fun h4 fl4 up4 => ?_)
          have J4 : Inv X pins σ' H' { s' with heap := h4 } := J.landed nb fl4.1 ((up.trans up3).trans up4) os ag
          obtain ⟨oe4, vs4, he4, hz4, hd4⟩ := fl4.there
          have S4 := trackE J4 he4 hz4 hd4 na n0 nL npn
          refine store_ok (X := X.suite a (X.pn ++ pins)) (v := .ref a) S4 hN hi (.inl hln) rfl (fun s5 S5 => ?_) (.inr hln)
          have done : ∀ {σ6 : L2.St} {H6 : Hp} {s6 : Shared} {Q : Shared → Prop}, Inv (X.suite a (X.pn ++ pins)) [] σ6 H6 s6 → (∀ s7, Inv X pins (σ6.set i none) H6 s7 → Q s7) →
              wpAny (model X.prog X.w) X.A (do bindName X.env n .none; unbindBehindTheSuite X.env n p2) (fun _ s7 => Q s7) X.xe s6 := fun S6 hq => gone_ok (backE S6 ok) hN hi hln hq
          refine wpAny_mono ((hsu a (X.pn ++ pins)).run [] s5 _ _ (unE i D) S5 (hy2 a na)) (fun f s6 hsp => ?_) (fun _ _ z => z.elim)
          cases f with
          | ret u =>
            obtain ⟨v6, σ6, H6, S6, r6, q6⟩ := hsp
            exact done S6 fun s7 J7 => ⟨_, _, _, J7, r6, q6⟩
          | next =>
            obtain ⟨σ6, H6, S6, q6⟩ := hsp
            exact done S6 fun s7 J7 => ⟨_, _, J7, q6⟩
          | brk =>
            obtain ⟨σ6, H6, S6, q6⟩ := hsp
            exact done S6 fun s7 J7 => ⟨_, _, J7, q6⟩
          | cont =>
            obtain ⟨σ6, H6, S6, q6⟩ := hsp
            exact done S6 fun s7 J7 => ⟨_, _, J7, q6⟩
    exact go hh w
  · cases f with
    | ret u =>
      obtain ⟨v, σ1, H1, J1, r, q⟩ := hsp
      exact ⟨v, σ1, H1, J1.ofTry ok, r, q⟩
    | next =>
      obtain ⟨σ1, H1, J1, q⟩ := hsp
      exact wpAny_execs_nil ⟨σ1, H1, J1.ofTry ok, q⟩
    | brk =>
      obtain ⟨σ1, H1, J1, q⟩ := hsp
      exact ⟨σ1, H1, J1.ofTry ok, q⟩
    | cont =>
      obtain ⟨σ1, H1, J1, q⟩ := hsp
      exact ⟨σ1, H1, J1.ofTry ok, q⟩
end
end Sk

namespace Sk
open PySem PySem.Spec PyProof.Rows L2
/-! ### a try's body: calls alone -/
def PostU (Z : Wh) (H : Hp) (r : Rs Unit) (Q : Hp → Prop) : Prop := match r with
  | .ok _ => ∀ H', Same H H' → Q H'
  | .exc x => ∀ H', Same H H' → EX Z.mg Z.E x H'
  | .bad => False
def tU (K : PySem.W.Frag) (mg : Str → Option Value) (W : WX) (fb : Ev → Rs Unit) : TS := fun Dn σ H => ∃ H0 ev, Same H0 H ∧ RpV K H0 σ ev ∧ PostU ⟨K, mg, WE W σ⟩ H (fb ev) fun H' => Dn.nx σ H'
def uC (fe : Ev → Rs D) : Ev → Rs Unit := fun ev => (fe ev).bind fun _ => .ok ()
def uS (fa fb : Ev → Rs Unit) : Ev → Rs Unit := fun ev => (fa ev).bind fun _ => fb ev
section
variable {X : Cx} {W : WX} {k : Nat} {x : Str} {R : List D → Rs D} {p pos pos2 : Pos} {e : Expr} {es : List Expr} {fr : Ev → Rs (List D)}
theorem su_call (G : Kn X.prog X.w X.K X.mg X.base (L2.CX X.prog X.w) k x .e R) (hr : Room k X.A) (tk : Takes X W) (ha : ∀ E, SA X E (e :: es) fr) (hg : Gl X x := by rfl) (hdb : (x == ("__debug__" : Str)) = false := by decide)
    (he : starEach (e :: es) X.env = (false, eval e X.env) :: starEach es X.env := by rfl) (hpl : (backTo pos (starEach es X.env)).any (·.1) = false := by rfl)
    (hs : swapsWith (.Call (.Name x p) (e :: es) [] pos) none pos2.line X.env = pure false := by rfl) :
    PS X (.Expr (.Call (.Name x p) (e :: es) [] pos) pos2) (tU X.K X.mg W (uC (eA R fr))) := by
  obtain ⟨f, fd, ps, F, hm, hk, hb⟩ := G.ex
  have A : PA X (e :: es) (fun σ H Q => tA ⟨X.K, X.mg, WE W σ⟩ fr σ H Q) := ⟨fun pos pins s σ H Q I q => (ha (WE W σ)).run pos pins s σ H Q I q⟩
  refine PS.weak (ps_expr (pe_callS F hr hg hm hk hb (fun σ => passAt tk σ) A hdb he hpl) hs) fun Dn σ H q => ?_
  obtain ⟨H0, ev, s, rv, q⟩ := q
  refine tA_of (Z := ⟨X.K, X.mg, WE W σ⟩) (P := fun H0 H r => PostE ⟨X.K, X.mg, WE W σ⟩ H0 H r fun _ H' => Dn.nx σ H') (op := R) ⟨H0, ev, s, rv, ?_⟩ (fun _ _ _ _ _ x p => p.step x) (fun _ _ _ p => p) (fun _ _ p => p) fun H0 H xs as s r p => ⟨H0, as, s, r, p⟩
  unfold uC eA at q
  cases ea : (fr ev).bind R with
  | bad => rw [ea] at q; exact q.elim
  | exc x => rw [ea] at q; exact q
  | ok d => rw [ea] at q; exact fun v A B y _ => q B y.b
variable {st : Stmt} {rest : List Stmt} {fa fb : Ev → Rs Unit}
theorem su_one (h : PS X st (tU X.K X.mg W fa)) : PSs X [st] (tU X.K X.mg W fa) := pss_one h
theorem su_cons (h : PS X st (tU X.K X.mg W fa)) (t : PSs X rest (tU X.K X.mg W fb)) : PSs X (st :: rest) (tU X.K X.mg W (uS fa fb)) := by
  refine PSs.weak (pss_cons h t) fun Dn σ H ⟨H0, ev, s, rv, q⟩ => ?_
  refine ⟨H0, ev, s, rv, ?_⟩
  unfold uS at q
  cases ea : fa ev with
  | bad => rw [ea] at q; exact q.elim
  | exc x => rw [ea] at q; exact q
  | ok d =>
    rw [ea] at q
    intro H' s'
    refine ⟨H0, ev, s.trans s', rv, ?_⟩
    simp only [Rs.ok_bind] at q
    cases eb : fb ev with
    | bad => rw [eb] at q; exact q
    | exc x => rw [eb] at q; exact fun H'' s'' => q H'' (s'.trans s'')
    | ok d => rw [eb] at q; exact fun H'' s'' => q H'' (s'.trans s'')
end
/-! ### try -/
def clrE (i : Nat) : Fl → Fl
  | .nx e => .nx (e.set i .un)
  | .bk e => .bk (e.set i .un)
  | .ct e => .ct (e.set i .un)
  | .rt d => .rt d
abbrev Hd := List String × List String × (SEnv → Rs Fl)
def hndl (i : Nat) (x : String) (env : SEnv) : List Hd → Rs Fl
  | [] => .bad
  | (yes, no, f) :: r => if yes.contains x = true then (match f (env.set i (.sh (dE (Str.ofString x)))) with | .ok fl => .ok (clrE i fl) | _ => .bad) else if no.contains x = true then hndl i x env r else .bad
def sTry (fb : Ev → Rs Unit) (i : Nat) (hs : List Hd) : SEnv → Rs Fl := fun env => match fb (allV env) with
  | .ok _ => .ok (.nx env)
  | .exc x => hndl i x env hs
  | .bad => .bad
/-- the class c takes (b) those named xs -/
def ExY (K : PySem.W.Frag) (mg : Str → Option Value) (c : Value) (b : Bool) (xs : List String) : Prop :=
  ∀ x ∈ xs, ∃ C, mg (Str.ofString x) = some (.ref C) ∧ PySem.W.nsIn K mainGlobals (Str.ofString x) = some (some (.ref C)) ∧ PySem.W.exmOne K (.ref C) c = some b
theorem ExY.nil {K mg c b} : ExY K mg c b [] := fun _ h => nomatch h
theorem ExY.cons {K : PySem.W.Frag} {mg : Str → Option Value} {c : Value} {b : Bool} {x : String} {xs : List String} {C : Addr} (h1 : mg (Str.ofString x) = some (.ref C)) (h2 : PySem.W.nsIn K mainGlobals (Str.ofString x) = some (some (.ref C))) (h3 : PySem.W.exmOne K (.ref C) c = some b)
    (r : ExY K mg c b xs) : ExY K mg c b (x :: xs) := fun y hy => by
  rcases List.mem_cons.mp hy with rfl | hy
  · exact ⟨C, h1, h2, h3⟩
  · exact r y hy
inductive HdL (X : Cx) (om : Om) (n : Str) : List ExceptHandler → List Hd → Prop
  | nil : HdL X om n [] []
  | cons {x : Str} {c : Value} {yes no : List String} {f : SEnv → Rs Fl} {st : Stmt} {suite : List Stmt} {p1 p2 : Pos} {hds : List ExceptHandler} {l : List Hd} (hc : Names X x c) (hy : ExY X.K X.mg c true yes) (hn : ExY X.K X.mg c false no)
      (hsu : ∀ (a : Addr) (pn : List (Addr × Obj)), SSs (X.suite a pn) (fun _ _ _ => False) om (st :: suite) f) (r : HdL X om n hds l) : HdL X om n (.ExceptHandler (some (.Name x p1)) (some n) (st :: suite) p2 :: hds) ((yes, no, f) :: l)
theorem Stt.set_un {K : PySem.W.Frag} {B0 B H0 H : Hp} {σ : L2.St} {env : SEnv} (S : Stt K B0 B H0 H σ env) (i : Nat) : Stt K B0 B H0 H (σ.set i none) (env.set i .un) := by
  have keep : ∀ {j : Nat}, i ≠ j → (σ.set i none)[j]? = σ[j]? := fun h => List.getElem?_set_ne h
  refine ⟨S.x, by rw [List.length_set, List.length_set]; exact S.len, fun j e hj => ?_, fun j e hj => ?_, fun j e hj => ?_, fun j k s t b hj hk h1 h2 => ?_⟩
  · rcases get_set hj with ⟨_, _, e1⟩ | ⟨hne, hj⟩
    · cases e1
    · rw [keep hne]; exact S.sh j e hj
  · rcases get_set hj with ⟨_, _, e1⟩ | ⟨hne, hj⟩
    · cases e1
    · rw [keep hne]; exact S.ow j e hj
  · rcases get_set hj with ⟨_, _, e1⟩ | ⟨hne, hj⟩
    · cases e1
    · rw [keep hne]; exact S.on j e hj
  · rcases get_set hj with ⟨_, _, e1⟩ | ⟨hne, hj⟩
    · subst e1; exact h1.elim
    · rcases get_set hk with ⟨_, _, e1⟩ | ⟨hne2, hk⟩
      · subst e1; exact h2.elim
      · rw [keep hne] at h1
        rw [keep hne2] at h2
        exact S.ne j k s t b hj hk h1 h2
section
variable {X : Cx} {E : XK} {om : Om} {n : Str} {i : Nat}
theorem hdl_run {hds : List ExceptHandler} {l : List Hd} (hk : HdL X om n hds l) : ∃ l2 : List (Value × TS), HdsE X n hds l2 ∧ ∀ (x : String) (env : SEnv) (B0 B H0 H : Hp) (σ : L2.St) (Dn : Ends), Stt X.K B0 B H0 H σ env → PostS (zOf X E) om B0 B (hndl i x env l) Dn →
    ∀ C, X.mg (Str.ofString x) = some (.ref C) → wH X.K i Dn l2 (.ref C) none σ H := by
  induction hk with
  | nil => exact ⟨[], .nil, fun x env B0 B H0 H σ Dn S p => p.elim⟩
  | @cons x' c yes no f st suite p1 p2 hds l hc hy hn hsu r ih =>
    obtain ⟨l2, h2, ih⟩ := ih
    refine ⟨(c, tS ⟨X.K, X.mg, fun _ _ _ => False⟩ om f) :: l2, .cons hc hsu h2, fun x env B0 B H0 H σ Dn S p C hC => ?_⟩
    unfold hndl at p
    by_cases c1 : yes.contains x = true
    · rw [if_pos c1] at p
      obtain ⟨C', m1, m2, m3⟩ := hy x (by simpa using c1)
      rw [hC] at m1
      cases m1
      refine ⟨true, m3, fun _ => ⟨rfl, fun a na => ?_⟩, fun z => nomatch z⟩
      have y := Ex2.new S.same na (ExE (.ref C) a)
      have S2 := (S.grow y).set_sh (d := dE (Str.ofString x)) (v := .ref a) i (.inr ⟨a, _, C, rfl, rfl, m2, upd_same⟩)
      refine ⟨B0, B, _, _, S2, ?_⟩
      cases ef : f (env.set i (.sh (dE (Str.ofString x)))) with
      | bad => rw [ef] at p; exact p.elim
      | exc e => rw [ef] at p; exact p.elim
      | ok fl =>
        rw [ef] at p
        cases fl with
        | nx env' => exact fun σ' H0' H' S' => p _ H0' H' (S'.set_un i)
        | bk env' => exact fun σ' H0' H' S' => p _ H0' H' (S'.set_un i)
        | ct env' => exact fun σ' H0' H' S' => p _ H0' H' (S'.set_un i)
        | rt d => exact p
    · rw [if_neg c1] at p
      by_cases c2 : no.contains x = true
      · rw [if_pos c2] at p
        obtain ⟨C', m1, m2, m3⟩ := hn x (by simpa using c2)
        rw [hC] at m1
        cases m1
        exact ⟨false, m3, fun z => (nomatch z), fun _ => ih x env B0 B H0 H σ Dn S p C hC⟩
      · rw [if_neg c2] at p; exact p.elim
variable {body : List Stmt} {hd0 : ExceptHandler} {hds : List ExceptHandler} {l : List Hd} {pos : Pos} {fb : Ev → Rs Unit}
theorem ss_try (hN : X.N.Nodup) (hi : X.N[i]? = some n) (hln : X.env.kindOf n = some .local)
    (hb : ∀ (W : WX) (pn : List (Addr × Obj)) (xe : Value → Shared → Prop), Takes (X.tr pn xe) W → PSs (X.tr pn xe) body (tU X.K X.mg W fb)) (hh : HdL X om n (hd0 :: hds) l)
    (hs : X.stack = X.env :: X.outer := by rfl) (hf : X.env.frame = some X.env.locals := by rfl) (hx : X.ex = [] := by rfl) : SS X E om (.Try body (hd0 :: hds) [] [] pos) (sTry fb i l) := by
  obtain ⟨l2, h2, go⟩ := hdl_run (E := E) (i := i) hh
  refine PS.weak (ps_tryE (i := i) hs hf hx hN hi hln hb h2) fun Dn σ H ⟨B0, B, H0, env, S, p⟩ => ?_
  refine ⟨bor H0 H σ env, allV env, S.bor_s, S.allv, ?_⟩
  unfold sTry at p
  cases eb : fb (allV env) with
  | bad => rw [eb] at p; exact p.elim
  | ok _ => rw [eb] at p; exact fun H' s => p σ H0 H' (S.up s)
  | exc x => rw [eb] at p; exact fun H' s C hC => go x env B0 B H0 H' σ Dn (S.up s) p C hC
end
/-! ### isinstance of a caught one -/
def lkp : List (Str × Bool) → Str → Option Bool
  | [], _ => none
  | (y, b) :: r, z => if z = y then some b else lkp r z
def opIsX (tab : List (Str × Bool)) : D → Rs D := fun d => match d with
  | .dict [(.none, .str z)] => rsB (lkp tab z)
  | _ => .bad
structure IsX (K : PySem.W.Frag) (cv : Value) (z : Str) (b : Bool) : Prop where
  ex : ∃ C, PySem.W.nsIn K mainGlobals z = some (some (.ref C)) ∧ ExcC K C ∧ PySem.W.kitOne K (.ref C) cv = some b
def IsT (K : PySem.W.Frag) (cv : Value) : List (Str × Bool) → Prop
  | [] => True
  | (z, b) :: r => IsX K cv z b ∧ IsT K cv r
theorem isT_lkp {K : PySem.W.Frag} {cv : Value} {z : Str} {b : Bool} : ∀ {tab : List (Str × Bool)}, IsT K cv tab → lkp tab z = some b → IsX K cv z b
  | [], _, h => nomatch h
  | (y, b') :: r, t, h => by
    unfold lkp at h
    by_cases c : z = y
    · subst c
      rw [if_pos rfl] at h
      cases h
      exact t.1
    · rw [if_neg c] at h
      exact isT_lkp t.2 h
section
variable {X : Cx} {E : XK} {e : Expr} {fe : Ev → Rs D} {p p2 pos : Pos} {y : Str}
theorem call_isK : CallR X (.builtin "isinstance") (fun xs H Q => ∃ (a C : Addr) (c : V) (cv : Value) (b : Bool), xs = [.ref a, c] ∧ H a = some (ExE (.ref C) a) ∧ ExcC X.K C ∧ ClsV c cv ∧ PySem.W.kitOne X.K (.ref C) cv = some b ∧ Q (.bl b) H) := by
  intro pins s σ H xs us Q I r h
  obtain ⟨a, C, c, cv, b, rfl, ha, ec, k, hb, q⟩ := h
  obtain ⟨u1, u2, rfl, r1, r2⟩ := vals2 r
  cases r1
  obtain rfl := k.eq r2
  obtain ⟨⟨oe, vs, ho, hz, hd⟩, _, _⟩ := I.hok a _ ha
  have J : PySem.W.InstAt s.heap a oe C none := by
    obtain ⟨oc, od, oda, osl⟩ := oe
    obtain ⟨h1, h2⟩ := hz
    simp only at h1 h2 hd
    subst h1 h2 hd
    exact ⟨ho, rfl, rfl, trivial⟩
  exact PySem.W.kia_one (PySem.W.handS_kitx_exc ec.hg ec.hk ec.hs ec.hd ec.ha ec.hn ec.ht ec.hm) I.kIn J hb (fun z => nomatch z) fun tk => ⟨.bl b, H, I.kept (t' := tk) fun _ _ z => z, rfl, q⟩
theorem se_isx {c : V} {cv : Value} (tab : List (Str × Bool)) (h : SE X E e fe) (hm : X.mg "isinstance" = none) (hy : PE X (.Name y p2) (tC c)) (kc : ClsV c cv) (ht : IsT X.K cv tab) (hv : bootBuiltins "isinstance" = some (.builtin "isinstance")) (hg : Gl X "isinstance" := by rfl)
    (he : starEach [e, .Name y p2] X.env = (false, eval e X.env) :: starEach [.Name y p2] X.env := by rfl) (he2 : starEach [.Name y p2] X.env = (false, eval (.Name y p2) X.env) :: starEach [] X.env := by rfl)
    (hpl : (backTo pos (starEach [.Name y p2] X.env)).any (·.1) = false := by rfl) :
    SE X E (.Call (.Name "isinstance" p) [e, .Name y p2] [] pos) (e1 (opIsX tab) fe) := by
  have A : PA X [e, .Name y p2] (tCons (tE (zOf X E) fe) (tCons (tC c) tNil)) := pa_cons h (pa_cons hy pa_nil he2) he
  refine PE.weak (pe_callB call_isK hg hm hv A (he := he) (hpl := hpl)) fun σ H Q q => ?_
  obtain ⟨H0, ev, s, rv, q⟩ := q
  refine ⟨H0, ev, s, rv, ?_⟩
  unfold e1 at q
  cases ea : fe ev with
  | bad => rw [ea] at q; exact q
  | exc x => rw [ea] at q; exact q
  | ok d =>
    rw [ea] at q
    intro v H1 H' x1 r1
    replace q := q.step x1
    simp only [Rs.ok_bind] at q
    unfold opIsX at q
    split at q
    · rename_i z
      obtain ⟨b, eb, q⟩ := rsB_run x1.c q
      obtain ⟨C, n1, ec, kb⟩ := (isT_lkp ht eb).ex
      rcases r1 with ⟨a, ps, _, _, w⟩ | ⟨a, z', C', e1, e2, n2, hH⟩
      · cases ps with
        | nil => cases w
        | cons p9 r9 =>
          have w2 : ((PyData.none, PyData.str z) : D × D) = (.tuple [.int p9.1.1, .int p9.1.2], .int p9.2) := (List.cons.inj w).1
          cases w2
      · cases e2
        rw [n1] at n2
        cases n2
        exact ⟨a, C, c, cv, b, by rw [e1], x1.c _ _ hH, ec, kc, kb, q⟩
    · exact q.elim
theorem pe_cls {C : Addr} (hg : Gl X y) (hm : X.mg y = some (.ref C)) (hd : (y == ("__debug__" : Str)) = false := by decide) : PE X (.Name y p2) (tC (.ref C)) := pe_glob (v := .ref C) hg hm rfl hd
theorem pe_bty {T : String} (hg : Gl X y) (hm : X.mg y = none) (hv : bootBuiltins y = some (.type T)) (hn : y ≠ "__name__" := by decide) (hd : (y == ("__debug__" : Str)) = false := by decide) : PE X (.Name y p2) (tC (.ty T)) := pe_bltn (v := .ty T) hg hm hv rfl hn hd
end
/-! ### list.count -/
def opCount : List D → List D → Rs D
  | ds, [.bool b] => (match boolsOf ds with
    | some bs => .ok (.int (bs.count b : Nat))
    | none => .bad)
  | _, _ => .bad
def eCount (fo : Ev → Rs D) (fr : Ev → Rs (List D)) : Ev → Rs D := fun ev => (fo ev).bind fun a => lstB a fun ds => (fr ev).bind fun r => opCount ds r
def bitK (b : Bool) : Value → Bool
  | .bool c => c == b
  | _ => false
section
variable {X : Cx}
theorem bits_of : ∀ {bs : List Bool} {us : List Value}, Vals (bs.map V.bl) us → us = bs.map Value.bool
  | [], _, .nil => rfl
  | b :: bs, _, .cons r t => by
    cases (show _ = Value.bool b from r)
    rw [bits_of t]; rfl
theorem bits_count (b : Bool) : ∀ bs : List Bool, (bs.map Value.bool).countP (bitK b) = bs.count b
  | [] => rfl
  | c :: bs => by
    rw [List.map_cons, List.countP_cons, List.count_cons, bits_count b bs]; rfl
theorem mt_countB : MtR X "list.count" (fun x xs H Q => ∃ (p : Addr) (bs : List Bool) (b : Bool), x = .ref p ∧ xs = [.bl b] ∧ SqL X.K H p (bs.map V.bl) ∧ Q (.int (bs.count b : Nat)) H) := by
  intro pins s σ H x xs v us Q I rx rxs h
  obtain ⟨p, bs, b, rfl, rfl, hs, q⟩ := h
  cases rx
  cases rxs with
  | cons ru rt =>
    cases rt
    rename_i u
    have hu : RelV (V.bl b) u := ru
    cases (show u = Value.bool b from ru)
    obtain ⟨its, rv, ⟨⟨cls, dd, data, sl⟩, n, ho, hc, hdn, hd⟩, hlen⟩ := I.list hs
    simp only at hc hd
    subst hc hd
    have ei := bits_of rv
    subst ei
    have fl : (bs.map V.bl).all flatV = true := all_flatB bs
    refine call_meets PySem.F.slot_list_count ⟨_, ho, rfl⟩ PySem.F.entry_list_count (PySem.F.args_list_count_2 _ _)
      (SeqAt.list_countAt p (bs.map Value.bool).toArray n dd sl (.bool b) (eqU (.bl b))) ⟨ho, fun y hy => mem_eqAt hu rfl rv fl y (by simpa using hy), ?_⟩
    refine ⟨.int (bs.count b : Nat), H, I.tok _, ⟨s.toks, ?_⟩, q⟩
    have e9 : ∀ bs : List Bool, (bs.map Value.bool).countP (eqU (.bl b)) = bs.count b := fun bs => by
      induction bs with
      | nil => rfl
      | cons c bs ih =>
        rw [List.map_cons, List.countP_cons, List.count_cons, ih, eqU_of (y := .bl c) rfl rfl]; rfl
    show Value.int (((bs.map Value.bool).toArray.toList.countP (eqU (.bl b)) : Nat) : Int) s.toks = _
    rw [e9]
end
section
variable {X : Cx} {E : XK} {e o : Expr} {es : List Expr} {fo : Ev → Rs D} {fr : Ev → Rs (List D)} {pos apos : Pos}
theorem se_count (ho : SE X E o fo) (ha : SA X E (e :: es) fr)
    (hbase : attributeBase o "count" X.env (eval o X.env) = eval o X.env := by rfl)
    (hfew : ((backTo pos (starEach (e :: es) X.env)).all (fun x => !x.1) && (backToKw pos (keywordEach [] X.env)).all (fun x => x.1.isSome)
      && decide ((e :: es).length + ([] : List Keyword).length + (if ([] : List Keyword).isEmpty then 0 else 1) < 30)) = true := by rfl)
    (hline : (apos.endLine == pos.line) = true := by rfl) (hs : starEach (e :: es) X.env = (false, eval e X.env) :: starEach es X.env := by rfl) (hplain : (backTo pos (starEach es X.env)).any (·.1) = false := by rfl) :
    SE X E (.Call (.Attribute o "count" apos) (e :: es) [] pos) (eCount fo fr) := by
  refine PE.weak (pe_bm PySem.F.plainAttrs_list PySem.F.slot_list_count PySem.F.type_list_count mt_countB ho ha hbase hfew hline hs hplain) fun σ H Q q => ?_
  obtain ⟨H0, ev, s, rv, p⟩ := q
  refine ⟨H0, ev, s, rv, ?_⟩
  unfold eCount at p
  cases ea : fo ev with
  | bad => rw [ea] at p; exact p
  | exc x => rw [ea] at p; exact p
  | ok d =>
    rw [ea] at p
    intro v H1 H' x1 r1
    cases d with
    | list ds =>
      obtain ⟨l, vs, rfl, h1, h2⟩ := r1
      refine ⟨.inl ⟨rfl, vs, x1.c.seq h1⟩, ?_⟩
      refine ⟨H1, ev, x1.c, rv.mono x1.a, ?_⟩
      replace p := p.step x1
      simp only [Rs.ok_bind, lstB] at p
      cases eb : fr ev with
      | bad => rw [eb] at p; exact p
      | exc x => rw [eb] at p; exact p
      | ok as =>
        rw [eb] at p
        intro ws H2 H'' x2 r2
        replace p := p.step x2
        simp only [Rs.ok_bind] at p
        unfold opCount at p
        split at p
        · rename_i b
          split at p
          · rename_i bs ebs
            obtain ⟨w', rfl, rw'⟩ := r2.one
            have e9 := boolsOf_some ebs
            subst e9
            have ev9 := h2.bls
            subst ev9
            exact ⟨l, bs, b, rfl, by rw [show w' = V.bl b from rw'], (x1.c.trans x2.b).seq h1, PostE.now (d := .int _) x2.c p rfl⟩
          · exact p.elim
        · exact p.elim
    | _ => exact p.elim
end
end Sk

namespace Sk
open PySem PySem.Spec PyProof.Rows L2 L2H
/-! ### a def called where an exception is handled; it raises nothing -/
structure FnQ (P : Program) (w : World) (K : PySem.W.Frag) (mg : Str → Option Value) (base : Heap) (k : Nat) (f : Addr) (fd : FuncData) (ps : List Str) (sp : Sp) : Prop where
  len : ∀ vs H Q E, sp vs H Q E → vs.length = ps.length
  run : ∀ (A : Around) (outer : List Env) (s : Shared) (H : Hp) (args : Args) (us : List Value) (vs : List V) (Q : VK) (E : XK), RoomH k A → Env0 P w K mg base A outer s H → BindsTo s fd args (ps.zip us) → Vals vs us →
    sp vs H Q E → codeAny (model P w) A (.call (.ref f) args) (CR CX0 outer P w H s Q E) s
/-- the body's context there -/
def cxQ (P : Program) (w : World) (K : PySem.W.Frag) (mg : Str → Option Value) (base : Heap) (N : List Str) (qual : Str) (scope : Scope) (f : Addr) (cd : Value) (A : Around) (outer : List Env) (s : Shared) (H : Hp) (E : XK) : Cx :=
  { cxOf CX0 P w K mg base N qual scope f cd A outer s H E with calm := false, xe := fun _ _ => False }
section
variable {P : Program} {w : World} {K : PySem.W.Frag} {mg : Str → Option Value} {base : Heap} {k : Nat} {f : Addr} {N ps : List Str}
theorem invQ {qual : Str} {scope : Scope} {cd : Value} {A : Around} {outer : List Env} {s s1 : Shared} {H : Hp} {E : XK} {us : List Value} {vs : List V} (S : FnScope N ps scope) (e0 : Env0 P w K mg base A outer s H) (hl : vs.length = ps.length) (r : Vals vs us)
    (x : InCallC s s.heap.objs.size (bindL (envOfC qual scope s.heap.objs.size f cd).kindOf (ps.zip us) fun _ => none) (cellsFrom (s.heap.objs.size + 1) scope.names [])
      (bindC (envOfC qual scope s.heap.objs.size f cd).kindOf (ps.zip us) fun _ => none) s1) : Inv (cxQ P w K mg base N qual scope f cd A outer s H E) [] (L2.start N vs) H s1 := by
  have e1 : Env0 P w K mg base { A with handled := none } outer s H := ⟨e0.frames, e0.mod, e0.bs, e0.bsz, e0.funs, e0.frf, e0.hok, e0.bare⟩
  have I := inv_start (CX := CX0) (E := E) S (A := { A with handled := none }) rfl e1 hl r x
  have o := I.ok
  constructor
  · exact ⟨o.mod, o.kind, o.glob, o.blt, o.above, o.inj, o.has, o.cab, (fun z => nomatch (show false = true from z)), Around.frames_deeper e0.frames, o.stk, o.exf, o.bs, o.bsz, o.noex, o.exfs, o.funs, o.frf⟩
  · exact I.os
  · exact I.bare
  · exact I.base
  · exact I.loc
  · exact I.cell
  · exact I.free
  · exact I.freeC
  · exact I.pin
  · exact I.hok
  · exact I.len
theorem fnQ_of {x qual : Str} {st : Stmt} {fd : FuncData} {sp : Sp} (F : Fun K x qual st f fd) (S : FnScope N ps (defScope st)) (len : ∀ vs H Q E, sp vs H Q E → vs.length = ps.length)
    (hb : ∀ (cdv : Value) (A : Around) (outer : List Env) (s : Shared) (H : Hp) (vs : List V) (Q : VK) (E : XK), RoomH k (A.deeper (envOfC qual (defScope st) s.heap.objs.size f cdv)) → sp vs H Q E →
      ∃ t, PSs (cxQ P w K mg base N qual (defScope st) f cdv A outer s H E) (defBody st) t ∧ t { nx := fun _ H' => Q .non H', rt := Q } (L2.start N vs) H) : FnQ P w K mg base (k + 1) f fd ps sp := by
  obtain ⟨oc, od, kV, doc, pm, an, cdv, ct, osl, rfl, lk, hcd⟩ := F.ex
  refine ⟨len, fun A outer s H args us vs Q E hr e0 hbi r hsp => ?_⟩
  have hl := len _ _ _ _ hsp
  have KX : K.In s.heap := e0.mod.kin.keeps fun b o e => (e0.bs b o e).1
  have lim : s.heap.NoLimit := e0.mod.nolimit.keeps fun b o e => (e0.bs b o e).1
  have hkind : ∀ y ∈ ps.zip us, (defScope st).names.lookup y.1 = some .local ∨ ((defScope st).names.lookup y.1 = some .cell ∧ ((cellsFrom (s.heap.objs.size + 1) (defScope st).names []).lookup y.1).isSome = true) := by
    rintro ⟨n, v⟩ hy
    rcases S.par n (List.of_mem_zip hy).1 with q | q
    · exact .inl q
    · exact .inr ⟨q, PySem.W.cellsFrom_some _ _ _ (.inl q)⟩
  refine codeAny_call_function hr.depth (KX _ _ lk) rfl S.co S.gen rfl (PySem.W.codeRec_of KX hcd) (hbi _ _ _ _ (wpAny_newFunctionEnv_cells S.kind hkind fun env he s1 x => ?_))
  subst he
  refine ⟨lim.keeps x.toInCall.keep, codeAny_func ?_⟩
  obtain ⟨t, ht, hq⟩ := hb cdv A outer s H vs Q E (hr.deeper _) hsp
  have I := invQ (P := P) (w := w) (E := E) S e0 hl r x
  refine wpAny_mono (ht.run [] s1 (L2.start N vs) H _ I hq) (fun fl s' hs => ?_) fun e s' hs => hs.elim
  cases fl with
  | ret u =>
    obtain ⟨v, σ', H', J, rv, q⟩ := hs
    exact ⟨v, H', J.os, J.bare, J.base, J.hok, rv, q⟩
  | next =>
    obtain ⟨σ', H', J, q⟩ := hs
    exact ⟨V.non, H', J.os, J.bare, J.base, J.hok, rfl, q⟩
  | brk =>
    obtain ⟨_, _, _, q⟩ := hs
    exact q.elim
  | cont =>
    obtain ⟨_, _, _, q⟩ := hs
    exact q.elim
end
section
variable {X : Cx} {k : Nat} {f : Addr} {fd : FuncData} {ps : List Str} {sp : Sp} {E : XK} {x : Str} {p pos : Pos} {e : Expr} {es : List Expr} {t : TA}
theorem pe_callQ (F : FnQ X.prog X.w X.K X.mg X.base k f fd ps sp) (hr : RoomH k X.A) (hg : Gl X x) (hm : X.mg x = some (.ref f)) (hk : PySem.W.keepIn X.K (.ref f) = true) (hb : Binds X.K fd ps []) (ha : PA X (e :: es) t) (hdb : (x == ("__debug__" : Str)) = false := by decide)
    (he : starEach (e :: es) X.env = (false, eval e X.env) :: starEach es X.env := by rfl) (hpl : (backTo pos (starEach es X.env)).any (·.1) = false := by rfl) : PE X (.Call (.Name x p) (e :: es) [] pos) (fun σ H Q => t σ H fun vs H1 => sp vs H1 Q E) := by
  refine ⟨fun pins s σ H Q I h => wpAny_Call_Name_kw (ld_glob I hg hm ?_ hdb)⟩
  refine PySem.W.callWith_K (h₀ := X.base) I.ok.mod.kin hk (thn (ha.run pos pins s σ H _ I h) fun us s1 hh => ?_) he hpl
  obtain ⟨vs, H1, I1, r, q⟩ := hh
  refine ⟨I1.kIn, ?_⟩
  have hl : us.length = ps.length := by rw [← r.length]; exact F.len _ _ _ _ q
  have b := hb s1 us I1.kIn (by rw [List.append_nil]; exact hl)
  rw [List.append_nil] at b
  refine wpAny_call (codeAny_mono (F.run X.A X.stack s1 H1 ⟨us, []⟩ us vs Q E hr I1.env0 b r q) fun r' s' hq => ?_)
  cases r' with
  | error e => exact hq.elim
  | ok fl =>
    cases fl with
    | ret u => exact I1.after hq
    | next => exact hq.elim
    | brk => exact hq.elim
    | cont => exact hq.elim
end
theorem roomH_mark {k : Nat} {A : Around} {h : Option Value} (r : Room k A) : RoomH k (A.mark h) := ⟨r.dp, r.un⟩
theorem u64_mark {k : Nat} {A : Around} {h : Option Value} (r : Room k A) : (A.mark h).units + 64 < cLine := Room.u64 (k := k) (A := A) r
/-- as Kn, for such a call -/
structure KnQ (P : Program) (w : World) (K : PySem.W.Frag) (mg : Str → Option Value) (base : Heap) (k : Nat) (x : Str) (om : Om) (R : List D → Rs D) : Prop where
  ex : ∃ f fd ps, FnQ P w K mg base k f fd ps (spF K mg om R) ∧ mg x = some (.ref f) ∧ PySem.W.keepIn K (.ref f) = true ∧ Binds K fd ps []
section
variable {X : Cx} {k : Nat} {x : Str} {R : List D → Rs D} {p pos : Pos} {e : Expr} {es : List Expr} {fr : Ev → Rs (List D)} {E : XK}
theorem so_callQ (G : KnQ X.prog X.w X.K X.mg X.base k x .o R) (hr : RoomH k X.A) (ha : SA X E (e :: es) fr) (hg : Gl X x := by rfl) (hdb : (x == ("__debug__" : Str)) = false := by decide)
    (he : starEach (e :: es) X.env = (false, eval e X.env) :: starEach es X.env := by rfl) (hpl : (backTo pos (starEach es X.env)).any (·.1) = false := by rfl) : SO X E (.Call (.Name x p) (e :: es) [] pos) (eA R fr) := by
  obtain ⟨f, fd, ps, F, hm, hk, hb⟩ := G.ex
  refine PE.weak (pe_callQ (E := E) F hr hg hm hk hb ha hdb he hpl) fun σ H Q q => ?_
  exact tA_of (P := fun H0 H r => PostO (zOf X E) H0 H r Q) q (fun _ _ _ _ _ x p => p.step x) (fun _ _ _ p => p) (fun _ _ p => p) fun H0 H xs as s r p => ⟨H0, as, s, r, p⟩
end
section
variable {P : Program} {w : World} {K : PySem.W.Frag} {mg : Str → Option Value} {base : Heap} {x : Str} {st : Stmt} {N ps : List Str} {om : Om}
theorem knQ {R : Nat → List D → Rs D} {fs : Nat → SEnv → Rs Fl} (Dx : Df K mg x st ps) (S : FnScope N ps (defScope st)) (h0 : ∀ ds, R 0 ds = .bad) (hR : ∀ n, R (n + 1) = fnOf N.length ps.length om (fs n))
    (hb : ∀ n f, mg x = some (.ref f) → ∀ (cdv : Value) (A : Around) (outer : List Env) (s : Shared) (H : Hp) (E : XK), RoomH n (A.deeper (envOfC x (defScope st) s.heap.objs.size f cdv)) →
      PSs (cxQ P w K mg base N x (defScope st) f cdv A outer s H E) (defBody st) (tS ⟨K, mg, E⟩ om (fs n))) : ∀ n, KnQ P w K mg base n x om (R n)
  | 0 => by
    obtain ⟨f, fd, F, hm, hbi⟩ := Dx.ex
    have no : ∀ vs H Q E, ¬ spF K mg om (R 0) vs H Q E := fun vs H Q E h => by
      obtain ⟨H0, ds, s, r, p⟩ := h
      rw [h0] at p
      exact p.bad
    exact ⟨f, fd, ps, ⟨fun vs H Q E h => (no vs H Q E h).elim, fun A outer s H args us vs Q E _ _ _ _ h => (no vs H Q E h).elim⟩, hm, F.kp, hbi⟩
  | n + 1 => by
    obtain ⟨f, fd, F, hm, hbi⟩ := Dx.ex
    exact ⟨f, fd, ps, fnQ_of F S (fn_len (hR n)) fun cdv A outer s H vs Q E hr h => ⟨_, hb n f hm cdv A outer s H E hr, fn_body (hR n) h⟩, hm, F.kp, hbi⟩
end
end Sk

namespace Sk
open PySem PySem.Spec PyProof.Rows L2
/-! ### for w in x, x a list that this def alone holds: if c: return e0; h = e -/
def foF (w h : Nat) (gc : Ev → Rs Bool) (f0 fe : Ev → Rs D) : List D → SEnv → Rs Fl
  | [], env => .ok (.nx env)
  | d :: ds, env => (gc (allV (env.set w (.sh d)))).bind fun b => if b = true then (f0 (allV (env.set w (.sh d)))).bind fun v => .ok (.rt v)
    else (fe (hidV (env.set w (.sh d)))).bind fun v => foF w h gc f0 fe ds ((env.set w (.sh d)).set h (.sh v))
def sFo (k w h : Nat) (gc : Ev → Rs Bool) (f0 fe : Ev → Rs D) : SEnv → Rs Fl := fun env => owL env[k]? fun ds => foF w h gc f0 fe ds env
section
variable {X : Cx} {E : XK} {c e0 : Expr} {st2 : Stmt} {gc : Ev → Rs Bool} {f0 fe : Ev → Rs D} {k w h : Nat} {tg iter : Expr} {p1 p2 pos : Pos}
theorem ss_fo (hp : PassesOwn (model X.prog X.w) X.A X.env X.xe) (hcm : X.calm = true) (hv : PE X iter (tVar k)) (hg : PG X tg (gName w)) (kw : k ≠ w) (kh : k ≠ h) (hc : SB X E c gc) (he0 : SE X E e0 f0) (h2 : PS X st2 (tAsg (tE (zOf X E) fe) (gName h)))
    (hs : ∀ x, foldedSetIterable iter X.env x = pure x := by intro _; rfl) : SS X E .e (.For tg iter [.If c [.Return (some e0) p1] [] p2, st2] [] pos) (sFo k w h gc f0 fe) := by
  have body : PSs X [.If c [.Return (some e0) p1] [] p2, st2] (tSeq (tIfS (tB (zOf X E) gc) (tRet (tE (zOf X E) f0)) tNext) (tAsg (tE (zOf X E) fe) (gName h))) := pss_cons (ps_if hc (pss_one (ps_ret he0)) pss_nil) (pss_one h2)
  refine PS.weak (ps_for hp hcm (pi_list hv) hg body hs) fun Dn σ H ⟨B0, B, H0, env, S, p⟩ => ?_
  unfold sFo owL at p
  split at p
  rotate_left
  · exact p.elim
  rename_i ds hd
  obtain ⟨a, h1, h3, h4, h5⟩ := S.ow k _ hd
  rcases h5 with ⟨es, vs, e1, e2, e3⟩ | ⟨ps, e1, _⟩
  rotate_left
  · cases e1
  cases e1
  refine ⟨.ref a, h1, a, rfl, ⟨vs, SqL.of e2⟩, ?_⟩
  refine ⟨fun t m σ3 H3 => t ≤ ds.length ∧ m = ds.length - t ∧ ∃ H0c envc, Stt X.K B0 B H0c H3 σ3 envc ∧ σ3[k]? = some (some (.ref a)) ∧ envc[k]? = some (.ow (.list ds)) ∧ PostS (zOf X E) .e B0 B (foF w h gc f0 fe (ds.drop t) envc) Dn,
    ⟨ds.length, Nat.zero_le _, by rw [Nat.sub_zero], H0, env, S, h1, hd, by rw [List.drop_zero]; exact p⟩, ?_⟩
  rintro t m σ3 H3 ⟨ht, rfl, H0c, envc, Sc, hσ, hk, pc⟩
  obtain ⟨a', g1, g2, g3, g4⟩ := Sc.ow k _ hk
  rw [hσ] at g1
  cases g1
  rcases g4 with ⟨es, us, z1, z2, z3⟩ | ⟨ps, z1, _⟩
  rotate_left
  · cases z1
  cases z1
  by_cases hlt : t < ds.length
  · have hlu : t < us.length := by rw [z3.length]; exact hlt
    refine .inr ⟨⟨us, us[t], SqL.of z2, by simp [hlu]⟩, fun σ4 H4 => ∃ H0d envd, Stt X.K B0 B H0d H4 σ4 envd ∧ σ4[k]? = some (some (.ref a)) ∧ envd[k]? = some (.ow (.list ds)) ∧ PostS (zOf X E) .e B0 B (foF w h gc f0 fe (ds.drop (t + 1)) envd) Dn,
      fun σ4 H4 ⟨H0d, envd, q1, q2, q3, q4⟩ => ⟨ds.length - (t + 1), by omega, hlt, rfl, H0d, envd, q1, q2, q3, q4⟩, fun x H4 hy => ?_⟩
    have hdr : ds.drop t = ds[t] :: ds.drop (t + 1) := List.drop_eq_getElem_cons hlt
    rw [hdr] at pc
    obtain ⟨rfl, hx⟩ := hy
    obtain ⟨v, hv2, rv⟩ := z3.get (List.getElem?_eq_getElem hlt)
    cases (hx us (SqL.of z2)).symm.trans hv2
    have S1 := Sc.set_sh w rv
    have s1k : (σ3.set w (some x))[k]? = some (some (.ref a)) := by rw [List.getElem?_set_ne (Ne.symm kw)]; exact hσ
    have e1k : (envc.set w (.sh ds[t]))[k]? = some (.ow (.list ds)) := by rw [List.getElem?_set_ne (Ne.symm kw)]; exact hk
    unfold foF at pc
    generalize envc.set w (.sh ds[t]) = env1 at S1 e1k pc
    show tB (zOf X E) gc (σ3.set w (some x)) H4 _
    generalize σ3.set w (some x) = σ1 at S1 s1k
    refine ⟨bor H0c H4 σ1 env1, allV env1, S1.bor_s, S1.allv, ?_⟩
    cases ec : gc (allV env1) with
    | bad => rw [ec] at pc; exact pc
    | exc y => rw [ec] at pc; exact pc.excs S1.x.b
    | ok b =>
      rw [ec] at pc
      intro H5 s5
      have S2 := S1.up s5
      cases b with
      | true =>
        rw [if_pos rfl]
        simp only [Rs.ok_bind, if_true] at pc
        refine ⟨bor H0c H5 σ1 env1, allV env1, S2.bor_s, S2.allv, ?_⟩
        cases ef : f0 (allV env1) with
        | bad => rw [ef] at pc; exact pc
        | exc y => rw [ef] at pc; exact pc.excs S2.x.b
        | ok d =>
          rw [ef] at pc
          intro u H0' H' y r
          exact pc u H0' H' (S2.frzAll.x.trans y) r
      | false =>
        rw [if_neg Bool.false_ne_true]
        simp only [Rs.ok_bind, Bool.false_eq_true, if_false] at pc
        refine ⟨H0c, hidV env1, S2.same, S2.hid, ?_⟩
        cases ef : fe (hidV env1) with
        | bad => rw [ef] at pc; exact pc
        | exc y => rw [ef] at pc; exact pc.excs S2.x.b
        | ok d =>
          rw [ef] at pc
          intro u H0' H' y r
          refine ⟨H0', env1.set h (.sh d), (S2.grow y).set_sh h r, ?_, ?_, pc⟩
          · rw [List.getElem?_set_ne (Ne.symm kh)]; exact s1k
          · rw [List.getElem?_set_ne (Ne.symm kh)]; exact e1k
  · have et : t = ds.length := by omega
    rw [et, List.drop_length] at pc
    exact .inl ⟨⟨us, SqL.of z2, by rw [z3.length]; omega⟩, pc σ3 H0c H3 Sc⟩
end
end Sk

namespace Sk
open PySem PySem.Spec PyProof.Rows L2
def N_row_of : List Str := ["tree"]
def F_row_of (r_row_of : List D → Rs D) : SEnv → Rs Fl :=
  (sSq (sIf (bE (e2 opIs (eV 0) (eC .none))) (sRt (eA mkL aN)) sNx)
  (sRt (e2 opCat (e2 opCat (eA r_row_of (aC (e2 opIx (eV 0) (eC (.int 1))) aN)) (eA mkL (aC (e2 opIx (eV 0) (eC (.int 0))) aN))) (eA r_row_of (aC (e2 opIx (eV 0) (eC (.int 2))) aN)))))
def R_row_of : Nat → List D → Rs D
  | 0 => fun _ => .bad
  | n + 1 => fnOf 1 1 .o (F_row_of (R_row_of n))
theorem S_row_of (n : Nat) (ds : List D) : R_row_of (n + 1) ds = fnOf 1 1 .o (F_row_of (R_row_of n)) ds := rfl
def N__law_cell_at : List Str := ["script", "k"]
def F__law_cell_at : SEnv → Rs Fl :=
  (sSq (sIf (bE (e2 opLt (eV 1) (eA opLen (aC (eV 0) aN)))) (sRt (e2 opIx (eV 0) (eV 1))) sNx)
  (sRt (eC (.int 0))))
def R__law_cell_at : Nat → List D → Rs D
  | 0 => fun _ => .bad
  | n + 1 => fnOf 2 2 .e (F__law_cell_at)
theorem S__law_cell_at (n : Nat) (ds : List D) : R__law_cell_at (n + 1) ds = fnOf 2 2 .e (F__law_cell_at) ds := rfl
def N__law_mix : List Str := ["cell", "k", "seed"]
def F__law_mix : SEnv → Rs Fl :=
  (sSq (sAs 2 (e2 opMod (e2 opAdd (e2 opAdd (e2 opMul (eV 0) (eC (.int 48271))) (e2 opMul (eC (.int 104729)) (eV 1))) (eC (.int 11))) (eC (.int 2147483647))))
  (sSq (sAs 2 (e2 opMod (e2 opAdd (e2 opAdd (e2 opMul (eV 2) (eV 2)) (e2 opMul (eC (.int 7919)) (eV 1))) (eC (.int 5))) (eC (.int 2147483629))))
  (sRt (e2 opMod (e2 opMul (eV 2) (eV 2)) (eC (.int 2147483587))))))
def R__law_mix : Nat → List D → Rs D
  | 0 => fun _ => .bad
  | n + 1 => fnOf 3 2 .e (F__law_mix)
theorem S__law_mix (n : Nat) (ds : List D) : R__law_mix (n + 1) ds = fnOf 3 2 .e (F__law_mix) ds := rfl
def N__law_many : List Str := ["cell", "most"]
def F__law_many : SEnv → Rs Fl :=
  (sSq (sIf (bE (e2 opEq (e2 opMod (e2 opDiv (eV 0) (eC (.int 7))) (eC (.int 4))) (eC (.int 1)))) (sRt (e2 opMod (e2 opDiv (eV 0) (eC (.int 28))) (e2 opAdd (eV 1) (eC (.int 1))))) sNx)
  (sRt (e2 opMod (eV 0) (eA opMin (aC (eC (.int 7)) (aC (e2 opAdd (eV 1) (eC (.int 1))) aN))))))
def R__law_many : Nat → List D → Rs D
  | 0 => fun _ => .bad
  | n + 1 => fnOf 2 2 .e (F__law_many)
theorem S__law_many (n : Nat) (ds : List D) : R__law_many (n + 1) ds = fnOf 2 2 .e (F__law_many) ds := rfl
def N__law_keys : List Str := ["script", "many", "cell", "keys", "k", "tail"]
def B1__law_keys (r__law_cell_at : List D → Rs D) : SEnv → Rs Fl :=
  (sSq (sAs 5 (eSl opSlS (eC (.str "dcbazyx")) oN (oS (e2 opMod (eA r__law_cell_at (aC (eV 0) (aC (e2 opAdd (eC (.int 29)) (eV 4)) aN))) (eC (.int 5))))))
  (sAp 3 (e2 opAdd (e2 opAdd (eSl opSlS (eC (.str "abzm")) oN (oS (e2 opMod (eV 2) (eC (.int 4))))) (e2 opIx (eC (.str "bdfhjlnprtvx")) (eV 4))) (eV 5))))
theorem x_B1__law_keys (r__law_cell_at : List D → Rs D) (env : SEnv) : B1__law_keys r__law_cell_at env =
  (sSq (sAs 5 (eSl opSlS (eC (.str "dcbazyx")) oN (oS (e2 opMod (eA r__law_cell_at (aC (eV 0) (aC (e2 opAdd (eC (.int 29)) (eV 4)) aN))) (eC (.int 5))))))
  (sAp 3 (e2 opAdd (e2 opAdd (eSl opSlS (eC (.str "abzm")) oN (oS (e2 opMod (eV 2) (eC (.int 4))))) (e2 opIx (eC (.str "bdfhjlnprtvx")) (eV 4))) (eV 5)))) env := rfl
def F__law_keys (r__law_cell_at : List D → Rs D) : SEnv → Rs Fl :=
  (sSq (sAs 2 (eA r__law_cell_at (aC (eV 0) (aC (eC (.int 28)) aN))))
  (sSq (sIf (bAnd (bE (e2 opEq (e2 opMod (e2 opDiv (eV 2) (eC (.int 4))) (eC (.int 4))) (eC (.int 1)))) (bE (e2 opLe (eV 1) (eC (.int 8))))) (sRt (eLc (zR1 (eV 1)) [4] 4 yesB (eSl opSlS (e2 opRep (eC (.str "cab")) (eC (.int 3))) oN (oS (e2 opAdd (eV 4) (eC (.int 1))))))) sNx)
  (sSq (sNw 3 (eA mkL aN))
  (sSq (sFor (zR1 (eV 1)) (gS1 4) (B1__law_keys r__law_cell_at))
  (sRtV 3)))))
def R__law_keys : Nat → List D → Rs D
  | 0 => fun _ => .bad
  | n + 1 => fnOf 6 2 .o (F__law_keys (R__law_cell_at n))
theorem S__law_keys (n : Nat) (ds : List D) : R__law_keys (n + 1) ds = fnOf 6 2 .o (F__law_keys (R__law_cell_at n)) ds := rfl
def N__law_tree : List Str := ["keys", "cell", "first", "last", "place"]
def F__law_tree (r__law_tree : List D → Rs D) (r__law_mix : List D → Rs D) : SEnv → Rs Fl :=
  (sSq (sIf (bE (e2 opEq (eV 2) (eV 3))) (sRt (eC .none)) sNx)
  (sSq (sAs 4 (e2 opAdd (eV 2) (e2 opMod (e2 opDiv (eA r__law_mix (aC (eV 1) (aC (e2 opAdd (e2 opMul (eC (.int 13)) (eV 2)) (eV 3)) aN))) (eC (.int 7))) (e2 opSub (eV 3) (eV 2)))))
  (sSq (sIf (bE (e2 opEq (e2 opMod (eV 1) (eC (.int 5))) (eC (.int 1)))) (sAs 4 (eV 2)) sNx)
  (sSq (sIf (bE (e2 opEq (e2 opMod (eV 1) (eC (.int 5))) (eC (.int 2)))) (sAs 4 (e2 opSub (eV 3) (eC (.int 1)))) sNx)
  (sRt (eA mkT (aC (e2 opIx (eV 0) (eV 4)) (aC (eA r__law_tree (aC (eV 0) (aC (eV 1) (aC (eV 2) (aC (eV 4) aN))))) (aC (eA r__law_tree (aC (eV 0) (aC (eV 1) (aC (e2 opAdd (eV 4) (eC (.int 1))) (aC (eV 3) aN))))) aN)))))))))
def R__law_tree : Nat → List D → Rs D
  | 0 => fun _ => .bad
  | n + 1 => fnOf 5 4 .e (F__law_tree (R__law_tree n) (R__law_mix n))
theorem S__law_tree (n : Nat) (ds : List D) : R__law_tree (n + 1) ds = fnOf 5 4 .e (F__law_tree (R__law_tree n) (R__law_mix n)) ds := rfl
def N__law_mirrored : List Str := ["tree"]
def F__law_mirrored (r__law_mirrored : List D → Rs D) : SEnv → Rs Fl :=
  (sSq (sIf (bE (e2 opIs (eV 0) (eC .none))) (sRt (eC .none)) sNx)
  (sRt (eA mkT (aC (e2 opIx (eV 0) (eC (.int 0))) (aC (eA r__law_mirrored (aC (e2 opIx (eV 0) (eC (.int 2))) aN)) (aC (eA r__law_mirrored (aC (e2 opIx (eV 0) (eC (.int 1))) aN)) aN))))))
def R__law_mirrored : Nat → List D → Rs D
  | 0 => fun _ => .bad
  | n + 1 => fnOf 1 1 .e (F__law_mirrored (R__law_mirrored n))
theorem S__law_mirrored (n : Nat) (ds : List D) : R__law_mirrored (n + 1) ds = fnOf 1 1 .e (F__law_mirrored (R__law_mirrored n)) ds := rfl
def N_law_k01 : List Str := ["script", "many", "keys", "tree", "turn", "found", "mirrored", "word"]
def B1_law_k01 (r__law_many : List D → Rs D) (r__law_keys : List D → Rs D) (r__law_tree : List D → Rs D) (r__law_mirrored : List D → Rs D) (r__law_cell_at : List D → Rs D) (r_row_of : List D → Rs D) : SEnv → Rs Fl :=
  (sSq (sNw 5 (eA r_row_of (aC (eV 3) aN)))
  (sSq (sIf (bOr (bNot (bE (e1 (opIsi "list") (eV 5)))) (bOr (bNot (bE (eA opAll (aC (eLc (zLst (eV 5)) [7] 7 yesB (e1 (opIsi "str") (eV 7))) aN)))) (bE (e2 opNe (eV 5) (eV 2))))) (sRt (eC (.bool false))) sNx)
  (sAp 5 (eC (.str "x")))))
theorem x_B1_law_k01 (r__law_many : List D → Rs D) (r__law_keys : List D → Rs D) (r__law_tree : List D → Rs D) (r__law_mirrored : List D → Rs D) (r__law_cell_at : List D → Rs D) (r_row_of : List D → Rs D) (env : SEnv) : B1_law_k01 r__law_many r__law_keys r__law_tree r__law_mirrored r__law_cell_at r_row_of env =
  (sSq (sNw 5 (eA r_row_of (aC (eV 3) aN)))
  (sSq (sIf (bOr (bNot (bE (e1 (opIsi "list") (eV 5)))) (bOr (bNot (bE (eA opAll (aC (eLc (zLst (eV 5)) [7] 7 yesB (e1 (opIsi "str") (eV 7))) aN)))) (bE (e2 opNe (eV 5) (eV 2))))) (sRt (eC (.bool false))) sNx)
  (sAp 5 (eC (.str "x"))))) env := rfl
def F_law_k01 (r__law_many : List D → Rs D) (r__law_keys : List D → Rs D) (r__law_tree : List D → Rs D) (r__law_mirrored : List D → Rs D) (r__law_cell_at : List D → Rs D) (r_row_of : List D → Rs D) : SEnv → Rs Fl :=
  (sSq (sAs 1 (eA r__law_many (aC (eA r__law_cell_at (aC (eV 0) (aC (eC (.int 0)) aN))) (aC (eC (.int 12)) aN))))
  (sSq (sAs 2 (eA r__law_keys (aC (eV 0) (aC (eV 1) aN))))
  (sSq (sAs 3 (eA r__law_tree (aC (eV 2) (aC (eA r__law_cell_at (aC (eV 0) (aC (eC (.int 42)) aN))) (aC (eC (.int 0)) (aC (eV 1) aN))))))
  (sSq (sFor (zR1 (eC (.int 2))) (gS1 4) (B1_law_k01 r__law_many r__law_keys r__law_tree r__law_mirrored r__law_cell_at r_row_of))
  (sSq (sAs 6 (eA r__law_mirrored (aC (eV 3) aN)))
  (sSq (sIf (bE (e2 opNe (eA r_row_of (aC (eV 6) aN)) (e1 opRev (eV 2)))) (sRt (eC (.bool false))) sNx)
  (sSq (sIf (bE (e2 opGt (eV 1) (eC (.int 9)))) (sRt (e2 opEq (eA r_row_of (aC (eC .none) aN)) (eA mkL aN))) sNx)
  (sRt (e2 opEq (eA r_row_of (aC (eA mkT (aC (eC (.str "m")) (aC (eV 6) (aC (eV 3) aN)))) aN)) (e2 opCat (e2 opCat (e1 opRev (eV 2)) (eA mkL (aC (eC (.str "m")) aN))) (eV 2)))))))))))
def R_law_k01 : Nat → List D → Rs D
  | 0 => fun _ => .bad
  | n + 1 => fnOf 8 1 .e (F_law_k01 (R__law_many n) (R__law_keys n) (R__law_tree n) (R__law_mirrored n) (R__law_cell_at n) (R_row_of n))
theorem S_law_k01 (n : Nat) (ds : List D) : R_law_k01 (n + 1) ds = fnOf 8 1 .e (F_law_k01 (R__law_many n) (R__law_keys n) (R__law_tree n) (R__law_mirrored n) (R__law_cell_at n) (R_row_of n)) ds := rfl
def N_is_word : List Str := ["text", "sign"]
def F_is_word : SEnv → Rs Fl :=
  (sSq (sIf (bNot (bE (eCh opLe opLe (eC (.int 1)) (eA opLen (aC (eV 0) aN)) (eC (.int 8))))) (sRt (eC (.bool false))) sNx)
  (sRt (eA opAll (aC (eLc (zStr (eV 0)) [1] 1 yesB (e2 opIn (eV 1) (eC (.str "abcdefghijklmnopqrstuvwxyz")))) aN))))
def R_is_word : Nat → List D → Rs D
  | 0 => fun _ => .bad
  | n + 1 => fnOf 2 1 .e (F_is_word)
theorem S_is_word (n : Nat) (ds : List D) : R_is_word (n + 1) ds = fnOf 2 1 .e (F_is_word) ds := rfl
def N_are_keys : List Str := ["keys", "k", "key"]
def F_are_keys (r_is_word : List D → Rs D) : SEnv → Rs Fl :=
  (sSq (sIf (bOr (bE (e2 opGt (eA opLen (aC (eV 0) aN)) (eC (.int 12)))) (bNot (bE (eA opAll (aC (eLc (zLst (eV 0)) [2] 2 yesB (eA r_is_word (aC (eV 2) aN))) aN))))) (sRt (eC (.bool false))) sNx)
  (sRt (eA opAll (aC (eLc (zR2 (eC (.int 1)) (eA opLen (aC (eV 0) aN))) [1] 1 yesB (e2 opLt (e2 opIx (eV 0) (e2 opSub (eV 1) (eC (.int 1)))) (e2 opIx (eV 0) (eV 1)))) aN))))
def R_are_keys : Nat → List D → Rs D
  | 0 => fun _ => .bad
  | n + 1 => fnOf 3 1 .e (F_are_keys (R_is_word n))
theorem S_are_keys (n : Nat) (ds : List D) : R_are_keys (n + 1) ds = fnOf 3 1 .e (F_are_keys (R_is_word n)) ds := rfl
def N_ask_keys : List Str := ["keys"]
def F_ask_keys (r_are_keys : List D → Rs D) : SEnv → Rs Fl :=
  (sIf (bNot (bE (eA r_are_keys (aC (eV 0) aN)))) (sRaise "NoKeys") sNx)
def R_ask_keys : Nat → List D → Rs D
  | 0 => fun _ => .bad
  | n + 1 => fnOf 1 1 .e (F_ask_keys (R_are_keys n))
theorem S_ask_keys (n : Nat) (ds : List D) : R_ask_keys (n + 1) ds = fnOf 1 1 .e (F_ask_keys (R_are_keys n)) ds := rfl
def N_ask_tree : List Str := ["keys", "tree"]
def F_ask_tree (r_row_of : List D → Rs D) : SEnv → Rs Fl :=
  (sIf (bE (e2 opNe (eA r_row_of (aC (eV 1) aN)) (eA opList (aC (eV 0) aN)))) (sRaise "NoTree") sNx)
def R_ask_tree : Nat → List D → Rs D
  | 0 => fun _ => .bad
  | n + 1 => fnOf 2 2 .e (F_ask_tree (R_row_of n))
theorem S_ask_tree (n : Nat) (ds : List D) : R_ask_tree (n + 1) ds = fnOf 2 2 .e (F_ask_tree (R_row_of n)) ds := rfl
def N_sought : List Str := ["tree", "word", "steps"]
def B1_sought : SEnv → Rs Fl :=
  (sSq (sAs 2 (e2 opAdd (eV 2) (eC (.int 1))))
  (sSq (sIf (bE (e2 opEq (e2 opIx (eV 0) (eC (.int 0))) (eV 1))) (sRt (eA mkT (aC (eV 2) (aC (eC (.bool true)) aN)))) sNx)
  (sIf (bE (e2 opLt (eV 1) (e2 opIx (eV 0) (eC (.int 0))))) (sAs 0 (e2 opIx (eV 0) (eC (.int 1)))) (sAs 0 (e2 opIx (eV 0) (eC (.int 2)))))))
theorem x_B1_sought (env : SEnv) : B1_sought env =
  (sSq (sAs 2 (e2 opAdd (eV 2) (eC (.int 1))))
  (sSq (sIf (bE (e2 opEq (e2 opIx (eV 0) (eC (.int 0))) (eV 1))) (sRt (eA mkT (aC (eV 2) (aC (eC (.bool true)) aN)))) sNx)
  (sIf (bE (e2 opLt (eV 1) (e2 opIx (eV 0) (eC (.int 0))))) (sAs 0 (e2 opIx (eV 0) (eC (.int 1)))) (sAs 0 (e2 opIx (eV 0) (eC (.int 2))))))) env := rfl
def F_sought : SEnv → Rs Fl :=
  (sSq (sAs 2 (eC (.int 0)))
  (sSq (whileN (bE (e2 opIsN (eV 0) (eC .none))) (B1_sought) 1000)
  (sRt (eA mkT (aC (eV 2) (aC (eC (.bool false)) aN))))))
def R_sought : Nat → List D → Rs D
  | 0 => fun _ => .bad
  | n + 1 => fnOf 3 2 .e (F_sought)
theorem S_sought (n : Nat) (ds : List D) : R_sought (n + 1) ds = fnOf 3 2 .e (F_sought) ds := rfl
def N_seek : List Str := ["keys", "tree", "word", "found", "key"]
def F_seek (r_ask_keys : List D → Rs D) (r_ask_tree : List D → Rs D) (r_sought : List D → Rs D) : SEnv → Rs Fl :=
  (sSq (sEx (eA r_ask_keys (aC (eV 0) aN)))
  (sSq (sEx (eA r_ask_tree (aC (eV 0) (aC (eV 1) aN))))
  (sSq (sAs 3 (eA r_sought (aC (eV 1) (aC (eV 2) aN))))
  (sSq (sIf (bE (e2 opIx (eV 3) (eC (.int 1)))) (sRt (eA mkT (aC (eC (.str "key")) (aC (e2 opIx (eV 3) (eC (.int 0))) aN)))) sNx)
  (sRt (eA mkT (aC (eC (.str "gap")) (aC (eA opLen (aC (eLc (zLst (eV 0)) [4] 4 (bE (e2 opLt (eV 4) (eV 2))) (eV 4)) aN)) (aC (e2 opIx (eV 3) (eC (.int 0))) aN)))))))))
def R_seek : Nat → List D → Rs D
  | 0 => fun _ => .bad
  | n + 1 => fnOf 5 3 .e (F_seek (R_ask_keys n) (R_ask_tree n) (R_sought n))
theorem S_seek (n : Nat) (ds : List D) : R_seek (n + 1) ds = fnOf 5 3 .e (F_seek (R_ask_keys n) (R_ask_tree n) (R_sought n)) ds := rfl
def N__law_whole : List Str := ["found"]
def F__law_whole : SEnv → Rs Fl :=
  (sRt (eAnd (e1 (opIsi "int") (eV 0)) (eNot (e1 (opIsi "bool") (eV 0)))))
def R__law_whole : Nat → List D → Rs D
  | 0 => fun _ => .bad
  | n + 1 => fnOf 1 1 .e (F__law_whole)
theorem S__law_whole (n : Nat) (ds : List D) : R__law_whole (n + 1) ds = fnOf 1 1 .e (F__law_whole) ds := rfl
def N__law_steps : List Str := ["tree", "word", "steps"]
def B1__law_steps : SEnv → Rs Fl :=
  (sSq (sAs 2 (e2 opAdd (eV 2) (eC (.int 1))))
  (sSq (sIf (bE (e2 opEq (e2 opIx (eV 0) (eC (.int 0))) (eV 1))) (sRt (eV 2)) sNx)
  (sAs 0 (e2 opIx (eV 0) (e2 opAdd (eC (.int 1)) (eA opInt (aC (e2 opGt (eV 1) (e2 opIx (eV 0) (eC (.int 0)))) aN)))))))
theorem x_B1__law_steps (env : SEnv) : B1__law_steps env =
  (sSq (sAs 2 (e2 opAdd (eV 2) (eC (.int 1))))
  (sSq (sIf (bE (e2 opEq (e2 opIx (eV 0) (eC (.int 0))) (eV 1))) (sRt (eV 2)) sNx)
  (sAs 0 (e2 opIx (eV 0) (e2 opAdd (eC (.int 1)) (eA opInt (aC (e2 opGt (eV 1) (e2 opIx (eV 0) (eC (.int 0)))) aN))))))) env := rfl
def F__law_steps : SEnv → Rs Fl :=
  (sSq (sAs 2 (eC (.int 0)))
  (sSq (whileN (bE (e2 opIsN (eV 0) (eC .none))) (B1__law_steps) 1000)
  (sRt (eV 2))))
def R__law_steps : Nat → List D → Rs D
  | 0 => fun _ => .bad
  | n + 1 => fnOf 3 2 .e (F__law_steps)
theorem S__law_steps (n : Nat) (ds : List D) : R__law_steps (n + 1) ds = fnOf 3 2 .e (F__law_steps) ds := rfl
def N__law_words : List Str := ["script", "keys", "found", "k", "cell", "word", "j"]
def B1__law_words (r__law_cell_at : List D → Rs D) (r__law_mix : List D → Rs D) : SEnv → Rs Fl :=
  (sSq (sAs 4 (eA r__law_cell_at (aC (eV 0) (aC (e2 opAdd (eC (.int 43)) (eV 3)) aN))))
  (sSq (sAs 5 (eJoin (eC (.str "")) (aC (eLc (zR1 (e2 opAdd (eC (.int 1)) (e2 opMod (eV 4) (eC (.int 8))))) [6] 6 yesB (e2 opIx (eC (.str "abcxyzbd")) (e2 opMod (e2 opDiv (eA r__law_mix (aC (eV 4) (aC (eV 6) aN))) (eC (.int 7))) (eC (.int 8))))) aN)))
  (sSq (sIf (bAnd (bE (e2 opEq (e2 opMod (e2 opDiv (eV 4) (eC (.int 8))) (eC (.int 3))) (eC (.int 1)))) (bE (e2 opGt (eA opLen (aC (eV 1) aN)) (eC (.int 0))))) (sAs 5 (eSl opSlS (e2 opAdd (e2 opIx (eV 1) (e2 opMod (e2 opDiv (eV 4) (eC (.int 24))) (eA opLen (aC (eV 1) aN)))) (eC (.str "am"))) oN (oS (eC (.int 8))))) sNx)
  (sSq (sIf (bAnd (bE (e2 opEq (e2 opMod (e2 opDiv (eV 4) (eC (.int 8))) (eC (.int 3))) (eC (.int 2)))) (bE (e2 opGt (eA opLen (aC (eV 1) aN)) (eC (.int 0))))) (sAs 5 (eSl opSlS (e2 opIx (eV 1) (e2 opMod (e2 opDiv (eV 4) (eC (.int 24))) (eA opLen (aC (eV 1) aN)))) oN (oS (e2 opAdd (eC (.int 1)) (e2 opMod (e2 opDiv (eV 4) (eC (.int 300))) (eC (.int 7))))))) sNx)
  (sAp 2 (eV 5))))))
theorem x_B1__law_words (r__law_cell_at : List D → Rs D) (r__law_mix : List D → Rs D) (env : SEnv) : B1__law_words r__law_cell_at r__law_mix env =
  (sSq (sAs 4 (eA r__law_cell_at (aC (eV 0) (aC (e2 opAdd (eC (.int 43)) (eV 3)) aN))))
  (sSq (sAs 5 (eJoin (eC (.str "")) (aC (eLc (zR1 (e2 opAdd (eC (.int 1)) (e2 opMod (eV 4) (eC (.int 8))))) [6] 6 yesB (e2 opIx (eC (.str "abcxyzbd")) (e2 opMod (e2 opDiv (eA r__law_mix (aC (eV 4) (aC (eV 6) aN))) (eC (.int 7))) (eC (.int 8))))) aN)))
  (sSq (sIf (bAnd (bE (e2 opEq (e2 opMod (e2 opDiv (eV 4) (eC (.int 8))) (eC (.int 3))) (eC (.int 1)))) (bE (e2 opGt (eA opLen (aC (eV 1) aN)) (eC (.int 0))))) (sAs 5 (eSl opSlS (e2 opAdd (e2 opIx (eV 1) (e2 opMod (e2 opDiv (eV 4) (eC (.int 24))) (eA opLen (aC (eV 1) aN)))) (eC (.str "am"))) oN (oS (eC (.int 8))))) sNx)
  (sSq (sIf (bAnd (bE (e2 opEq (e2 opMod (e2 opDiv (eV 4) (eC (.int 8))) (eC (.int 3))) (eC (.int 2)))) (bE (e2 opGt (eA opLen (aC (eV 1) aN)) (eC (.int 0))))) (sAs 5 (eSl opSlS (e2 opIx (eV 1) (e2 opMod (e2 opDiv (eV 4) (eC (.int 24))) (eA opLen (aC (eV 1) aN)))) oN (oS (e2 opAdd (eC (.int 1)) (e2 opMod (e2 opDiv (eV 4) (eC (.int 300))) (eC (.int 7))))))) sNx)
  (sAp 2 (eV 5)))))) env := rfl
def F__law_words (r__law_cell_at : List D → Rs D) (r__law_mix : List D → Rs D) : SEnv → Rs Fl :=
  (sSq (sNw 2 (eA opList (aC (eV 1) aN)))
  (sSq (sFor (zR1 (eC (.int 5))) (gS1 3) (B1__law_words r__law_cell_at r__law_mix))
  (sRtV 2)))
def R__law_words : Nat → List D → Rs D
  | 0 => fun _ => .bad
  | n + 1 => fnOf 7 2 .o (F__law_words (R__law_cell_at n) (R__law_mix n))
theorem S__law_words (n : Nat) (ds : List D) : R__law_words (n + 1) ds = fnOf 7 2 .o (F__law_words (R__law_cell_at n) (R__law_mix n)) ds := rfl
def N_law_k02 : List Str := ["script", "many", "keys", "tree", "handed", "word", "steps", "due", "found", "key", "one"]
def B1_law_k02 (r__law_many : List D → Rs D) (r__law_keys : List D → Rs D) (r__law_tree : List D → Rs D) (r__law_words : List D → Rs D) (r__law_cell_at : List D → Rs D) (r__law_steps : List D → Rs D) (r_seek : List D → Rs D) (r__law_whole : List D → Rs D) : SEnv → Rs Fl :=
  (sSq (sAs 6 (eA r__law_steps (aC (eV 3) (aC (eV 5) aN))))
  (sSq (sAs 7 (eA mkT (aC (eC (.str "gap")) (aC (eA opLen (aC (eLc (zLst (eV 2)) [9] 9 (bE (e2 opLt (eV 9) (eV 5))) (eV 9)) aN)) (aC (eV 6) aN)))))
  (sSq (sIf (bE (e2 opIn (eV 5) (eV 2))) (sAs 7 (eA mkT (aC (eC (.str "key")) (aC (eV 6) aN)))) sNx)
  (sSq (sAs 8 (eA r_seek (aC (eV 4) (aC (eV 3) (aC (eV 5) aN)))))
  (sSq (sIf (bOr (bNot (bE (e1 (opIsi "tuple") (eV 8)))) (bOr (bNot (bE (e1 (opIsi "str") (e2 opIx (eV 8) (eC (.int 0)))))) (bE (e2 opNe (eV 8) (eV 7))))) (sRt (eC (.bool false))) sNx)
  (sIf (bNot (bE (eA opAll (aC (eLc (zTup (eSl opSlT (eV 8) (oS (eC (.int 1))) oN)) [10] 10 yesB (eA r__law_whole (aC (eV 10) aN))) aN)))) (sRt (eC (.bool false))) sNx))))))
theorem x_B1_law_k02 (r__law_many : List D → Rs D) (r__law_keys : List D → Rs D) (r__law_tree : List D → Rs D) (r__law_words : List D → Rs D) (r__law_cell_at : List D → Rs D) (r__law_steps : List D → Rs D) (r_seek : List D → Rs D) (r__law_whole : List D → Rs D) (env : SEnv) : B1_law_k02 r__law_many r__law_keys r__law_tree r__law_words r__law_cell_at r__law_steps r_seek r__law_whole env =
  (sSq (sAs 6 (eA r__law_steps (aC (eV 3) (aC (eV 5) aN))))
  (sSq (sAs 7 (eA mkT (aC (eC (.str "gap")) (aC (eA opLen (aC (eLc (zLst (eV 2)) [9] 9 (bE (e2 opLt (eV 9) (eV 5))) (eV 9)) aN)) (aC (eV 6) aN)))))
  (sSq (sIf (bE (e2 opIn (eV 5) (eV 2))) (sAs 7 (eA mkT (aC (eC (.str "key")) (aC (eV 6) aN)))) sNx)
  (sSq (sAs 8 (eA r_seek (aC (eV 4) (aC (eV 3) (aC (eV 5) aN)))))
  (sSq (sIf (bOr (bNot (bE (e1 (opIsi "tuple") (eV 8)))) (bOr (bNot (bE (e1 (opIsi "str") (e2 opIx (eV 8) (eC (.int 0)))))) (bE (e2 opNe (eV 8) (eV 7))))) (sRt (eC (.bool false))) sNx)
  (sIf (bNot (bE (eA opAll (aC (eLc (zTup (eSl opSlT (eV 8) (oS (eC (.int 1))) oN)) [10] 10 yesB (eA r__law_whole (aC (eV 10) aN))) aN)))) (sRt (eC (.bool false))) sNx)))))) env := rfl
def F_law_k02 (r__law_many : List D → Rs D) (r__law_keys : List D → Rs D) (r__law_tree : List D → Rs D) (r__law_words : List D → Rs D) (r__law_cell_at : List D → Rs D) (r__law_steps : List D → Rs D) (r_seek : List D → Rs D) (r__law_whole : List D → Rs D) : SEnv → Rs Fl :=
  (sSq (sAs 1 (eA r__law_many (aC (eA r__law_cell_at (aC (eV 0) (aC (eC (.int 0)) aN))) (aC (eC (.int 12)) aN))))
  (sSq (sAs 2 (eA r__law_keys (aC (eV 0) (aC (eV 1) aN))))
  (sSq (sAs 3 (eA r__law_tree (aC (eV 2) (aC (eA r__law_cell_at (aC (eV 0) (aC (eC (.int 42)) aN))) (aC (eC (.int 0)) (aC (eV 1) aN))))))
  (sSq (sAs 4 (eA opList (aC (eV 2) aN)))
  (sSq (sFor (zLst (eA r__law_words (aC (eV 0) (aC (eV 2) aN)))) (gS1 5) (B1_law_k02 r__law_many r__law_keys r__law_tree r__law_words r__law_cell_at r__law_steps r_seek r__law_whole))
  (sRt (e2 opEq (eV 4) (eV 2))))))))
def R_law_k02 : Nat → List D → Rs D
  | 0 => fun _ => .bad
  | n + 1 => fnOf 11 1 .e (F_law_k02 (R__law_many n) (R__law_keys n) (R__law_tree n) (R__law_words n) (R__law_cell_at n) (R__law_steps n) (R_seek n) (R__law_whole n))
theorem S_law_k02 (n : Nat) (ds : List D) : R_law_k02 (n + 1) ds = fnOf 11 1 .e (F_law_k02 (R__law_many n) (R__law_keys n) (R__law_tree n) (R__law_words n) (R__law_cell_at n) (R__law_steps n) (R_seek n) (R__law_whole n)) ds := rfl
def N_ask_weights : List Str := ["keys", "hits", "misses", "weight"]
def B1_ask_weights (r_ask_keys : List D → Rs D) : SEnv → Rs Fl :=
  (sIf (bNot (bE (eCh opLe opLe (eC (.int 0)) (eV 3) (eC (.int 1000000))))) (sRaise "NoWeights") sNx)
theorem x_B1_ask_weights (r_ask_keys : List D → Rs D) (env : SEnv) : B1_ask_weights r_ask_keys env =
  (sIf (bNot (bE (eCh opLe opLe (eC (.int 0)) (eV 3) (eC (.int 1000000))))) (sRaise "NoWeights") sNx) env := rfl
def F_ask_weights (r_ask_keys : List D → Rs D) : SEnv → Rs Fl :=
  (sSq (sEx (eA r_ask_keys (aC (eV 0) aN)))
  (sSq (sIf (bOr (bE (e2 opNe (eA opLen (aC (eV 1) aN)) (eA opLen (aC (eV 0) aN)))) (bE (e2 opNe (eA opLen (aC (eV 2) aN)) (e2 opAdd (eA opLen (aC (eV 0) aN)) (eC (.int 1)))))) (sRaise "NoWeights") sNx)
  (sFor (zLst (e2 opCat (eA opList (aC (eV 1) aN)) (eA opList (aC (eV 2) aN)))) (gS1 3) (B1_ask_weights r_ask_keys))))
def R_ask_weights : Nat → List D → Rs D
  | 0 => fun _ => .bad
  | n + 1 => fnOf 4 3 .e (F_ask_weights (R_ask_keys n))
theorem S_ask_weights (n : Nat) (ds : List D) : R_ask_weights (n + 1) ds = fnOf 4 3 .e (F_ask_weights (R_ask_keys n)) ds := rfl
def N_cost_of : List Str := ["hits", "misses", "tree", "first", "steps", "left", "right"]
def F_cost_of (r_cost_of : List D → Rs D) : SEnv → Rs Fl :=
  (sSq (sIf (bE (e2 opIs (eV 2) (eC .none))) (sRt (eA mkT (aC (e2 opMul (e2 opIx (eV 1) (eV 3)) (eV 4)) (aC (eV 3) aN)))) sNx)
  (sSq (sAs 5 (eA r_cost_of (aC (eV 0) (aC (eV 1) (aC (e2 opIx (eV 2) (eC (.int 1))) (aC (eV 3) (aC (e2 opAdd (eV 4) (eC (.int 1))) aN)))))))
  (sSq (sAs 6 (eA r_cost_of (aC (eV 0) (aC (eV 1) (aC (e2 opIx (eV 2) (eC (.int 2))) (aC (e2 opAdd (e2 opIx (eV 5) (eC (.int 1))) (eC (.int 1))) (aC (e2 opAdd (eV 4) (eC (.int 1))) aN)))))))
  (sRt (eA mkT (aC (e2 opAdd (e2 opAdd (e2 opIx (eV 5) (eC (.int 0))) (e2 opMul (e2 opIx (eV 0) (e2 opIx (eV 5) (eC (.int 1)))) (e2 opAdd (eV 4) (eC (.int 1))))) (e2 opIx (eV 6) (eC (.int 0)))) (aC (e2 opIx (eV 6) (eC (.int 1))) aN)))))))
def R_cost_of : Nat → List D → Rs D
  | 0 => fun _ => .bad
  | n + 1 => fnOf 7 5 .e (F_cost_of (R_cost_of n))
theorem S_cost_of (n : Nat) (ds : List D) : R_cost_of (n + 1) ds = fnOf 7 5 .e (F_cost_of (R_cost_of n)) ds := rfl
def N_cost : List Str := ["keys", "hits", "misses", "tree"]
def F_cost (r_ask_weights : List D → Rs D) (r_ask_tree : List D → Rs D) (r_cost_of : List D → Rs D) : SEnv → Rs Fl :=
  (sSq (sEx (eA r_ask_weights (aC (eV 0) (aC (eV 1) (aC (eV 2) aN)))))
  (sSq (sEx (eA r_ask_tree (aC (eV 0) (aC (eV 3) aN))))
  (sRt (e2 opIx (eA r_cost_of (aC (eV 1) (aC (eV 2) (aC (eV 3) (aC (eC (.int 0)) (aC (eC (.int 0)) aN)))))) (eC (.int 0))))))
def R_cost : Nat → List D → Rs D
  | 0 => fun _ => .bad
  | n + 1 => fnOf 4 4 .e (F_cost (R_ask_weights n) (R_ask_tree n) (R_cost_of n))
theorem S_cost (n : Nat) (ds : List D) : R_cost (n + 1) ds = fnOf 4 4 .e (F_cost (R_ask_weights n) (R_ask_tree n) (R_cost_of n)) ds := rfl
def N__law_weights : List Str := ["script", "first", "many", "most", "found", "k", "weight"]
def F__law_weights (r__law_cell_at : List D → Rs D) (r__law_mix : List D → Rs D) : SEnv → Rs Fl :=
  (sSq (sAs 3 (e2 opIx (eA mkL (aC (eC (.int 4)) (aC (eC (.int 30)) (aC (eC (.int 1000001)) (aC (eC (.int 2)) aN))))) (e2 opMod (eA r__law_cell_at (aC (eV 0) (aC (eC (.int 1)) aN))) (eC (.int 4)))))
  (sSq (sNw 4 (eLc (zR1 (eV 2)) [5] 5 yesB (e2 opMod (e2 opDiv (eA r__law_mix (aC (eA r__law_cell_at (aC (eV 0) (aC (e2 opAdd (eV 1) (eV 5)) aN))) (aC (eV 5) aN))) (eC (.int 7))) (eV 3))))
  (sSq (sIf (bE (e2 opGt (eV 3) (eC (.int 30)))) (sNwB 4 (eLc (zLst (eV 4)) [6] 6 yesB (e2 opIx (eA mkL (aC (eV 6) (aC (eC (.int 1000000)) aN))) (eA opInt (aC (e2 opEq (e2 opMod (eV 6) (eC (.int 9))) (eC (.int 4))) aN))))) sNx)
  (sRtV 4))))
def R__law_weights : Nat → List D → Rs D
  | 0 => fun _ => .bad
  | n + 1 => fnOf 7 3 .o (F__law_weights (R__law_cell_at n) (R__law_mix n))
theorem S__law_weights (n : Nat) (ds : List D) : R__law_weights (n + 1) ds = fnOf 7 3 .o (F__law_weights (R__law_cell_at n) (R__law_mix n)) ds := rfl
def N__law_cost : List Str := ["tree", "keys", "hits", "misses", "steps", "place", "left", "right"]
def F__law_cost (r__law_cost : List D → Rs D) : SEnv → Rs Fl :=
  (sSq (sIf (bE (e2 opIs (eV 0) (eC .none))) (sRt (e2 opMul (e2 opIx (eV 3) (eC (.int 0))) (eV 4))) sNx)
  (sSq (sAs 5 (eIndex (eV 1) (aC (e2 opIx (eV 0) (eC (.int 0))) aN)))
  (sSq (sAs 6 (eA r__law_cost (aC (e2 opIx (eV 0) (eC (.int 1))) (aC (eSl opSlL (eV 1) oN (oS (eV 5))) (aC (eSl opSlL (eV 2) oN (oS (eV 5))) (aC (eSl opSlL (eV 3) oN (oS (e2 opAdd (eV 5) (eC (.int 1))))) (aC (e2 opAdd (eV 4) (eC (.int 1))) aN)))))))
  (sSq (sAs 7 (eA r__law_cost (aC (e2 opIx (eV 0) (eC (.int 2))) (aC (eSl opSlL (eV 1) (oS (e2 opAdd (eV 5) (eC (.int 1)))) oN) (aC (eSl opSlL (eV 2) (oS (e2 opAdd (eV 5) (eC (.int 1)))) oN) (aC (eSl opSlL (eV 3) (oS (e2 opAdd (eV 5) (eC (.int 1)))) oN) (aC (e2 opAdd (eV 4) (eC (.int 1))) aN)))))))
  (sRt (e2 opAdd (e2 opAdd (eV 6) (e2 opMul (e2 opIx (eV 2) (eV 5)) (e2 opAdd (eV 4) (eC (.int 1))))) (eV 7)))))))
def R__law_cost : Nat → List D → Rs D
  | 0 => fun _ => .bad
  | n + 1 => fnOf 8 5 .e (F__law_cost (R__law_cost n))
theorem S__law_cost (n : Nat) (ds : List D) : R__law_cost (n + 1) ds = fnOf 8 5 .e (F__law_cost (R__law_cost n)) ds := rfl
def N_law_k03 : List Str := ["script", "many", "keys", "hits", "misses", "tree", "due", "handed", "found", "k"]
def B1_law_k03 (r__law_many : List D → Rs D) (r__law_keys : List D → Rs D) (r__law_weights : List D → Rs D) (r__law_tree : List D → Rs D) (r__law_cost : List D → Rs D) (r_cost : List D → Rs D) (r__law_cell_at : List D → Rs D) (r__law_whole : List D → Rs D) : SEnv → Rs Fl :=
  (sNit 7 (eC (.int 1)) (eV 9) (eC (.int 0)))
theorem x_B1_law_k03 (r__law_many : List D → Rs D) (r__law_keys : List D → Rs D) (r__law_weights : List D → Rs D) (r__law_tree : List D → Rs D) (r__law_cost : List D → Rs D) (r_cost : List D → Rs D) (r__law_cell_at : List D → Rs D) (r__law_whole : List D → Rs D) (env : SEnv) : B1_law_k03 r__law_many r__law_keys r__law_weights r__law_tree r__law_cost r_cost r__law_cell_at r__law_whole env =
  (sNit 7 (eC (.int 1)) (eV 9) (eC (.int 0))) env := rfl
def F_law_k03 (r__law_many : List D → Rs D) (r__law_keys : List D → Rs D) (r__law_weights : List D → Rs D) (r__law_tree : List D → Rs D) (r__law_cost : List D → Rs D) (r_cost : List D → Rs D) (r__law_cell_at : List D → Rs D) (r__law_whole : List D → Rs D) : SEnv → Rs Fl :=
  (sSq (sAs 1 (eA r__law_many (aC (eA r__law_cell_at (aC (eV 0) (aC (eC (.int 0)) aN))) (aC (eC (.int 12)) aN))))
  (sSq (sAs 2 (eA r__law_keys (aC (eV 0) (aC (eV 1) aN))))
  (sSq (sAs 3 (eA r__law_weights (aC (eV 0) (aC (eC (.int 2)) (aC (eV 1) aN)))))
  (sSq (sAs 4 (eA r__law_weights (aC (eV 0) (aC (eC (.int 15)) (aC (e2 opAdd (eV 1) (eC (.int 1))) aN)))))
  (sSq (sAs 5 (eA r__law_tree (aC (eV 2) (aC (eA r__law_cell_at (aC (eV 0) (aC (eC (.int 42)) aN))) (aC (eC (.int 0)) (aC (eV 1) aN))))))
  (sSq (sAs 6 (eA r__law_cost (aC (eV 5) (aC (eV 2) (aC (eV 3) (aC (eV 4) (aC (eC (.int 0)) aN)))))))
  (sSq (sNn 7 (eA mkL (aC (eA opList (aC (eV 2) aN)) (aC (eA opList (aC (eV 3) aN)) (aC (eA opList (aC (eV 4) aN)) aN)))))
  (sSq (sAsB 8 (eA r_cost (aC (e2 opIx (eV 7) (eC (.int 0))) (aC (e2 opIx (eV 7) (eC (.int 1))) (aC (e2 opIx (eV 7) (eC (.int 2))) (aC (eV 5) aN))))))
  (sSq (sIf (bOr (bNot (bE (eA r__law_whole (aC (eV 8) aN)))) (bOr (bE (e2 opNe (eV 8) (eV 6))) (bE (e2 opNe (eV 7) (eA mkL (aC (eV 2) (aC (eV 3) (aC (eV 4) aN)))))))) (sRt (eC (.bool false))) sNx)
  (sSq (sNit 7 (eC (.int 2)) (eC (.int 0)) (e2 opAdd (e2 opIx (e2 opIx (eV 7) (eC (.int 2))) (eC (.int 0))) (eC (.int 1))))
  (sSq (sFor (zR1 (eV 1)) (gS1 9) (B1_law_k03 r__law_many r__law_keys r__law_weights r__law_tree r__law_cost r_cost r__law_cell_at r__law_whole))
  (sRt (e2 opEq (eA r_cost (aC (eA opList (aC (eV 2) aN)) (aC (eA opList (aC (eV 3) aN)) (aC (eA opList (aC (eV 4) aN)) (aC (eV 5) aN))))) (eV 6))))))))))))))
def R_law_k03 : Nat → List D → Rs D
  | 0 => fun _ => .bad
  | n + 1 => fnOf 10 1 .e (F_law_k03 (R__law_many n) (R__law_keys n) (R__law_weights n) (R__law_tree n) (R__law_cost n) (R_cost n) (R__law_cell_at n) (R__law_whole n))
theorem S_law_k03 (n : Nat) (ds : List D) : R_law_k03 (n + 1) ds = fnOf 10 1 .e (F_law_k03 (R__law_many n) (R__law_keys n) (R__law_weights n) (R__law_tree n) (R__law_cost n) (R_cost n) (R__law_cell_at n) (R__law_whole n)) ds := rfl
def N__law_between : List Str := ["keys", "gap"]
def F__law_between : SEnv → Rs Fl :=
  (sSq (sIf (bE (e2 opEq (eV 1) (eC (.int 0)))) (sRt (eC (.str "a"))) sNx)
  (sRt (e2 opAdd (e2 opIx (eV 0) (e2 opSub (eV 1) (eC (.int 1)))) (eC (.str "a")))))
def R__law_between : Nat → List D → Rs D
  | 0 => fun _ => .bad
  | n + 1 => fnOf 2 2 .e (F__law_between)
theorem S__law_between (n : Nat) (ds : List D) : R__law_between (n + 1) ds = fnOf 2 2 .e (F__law_between) ds := rfl
def N_law_k04 : List Str := ["script", "many", "keys", "hits", "misses", "tree", "total", "place", "found", "gap", "word", "key"]
def B1_law_k04 (r__law_many : List D → Rs D) (r__law_weights : List D → Rs D) (r__law_tree : List D → Rs D) (r__law_cell_at : List D → Rs D) (r_seek : List D → Rs D) (r__law_between : List D → Rs D) (r_cost : List D → Rs D) (r__law_keys : List D → Rs D) (r__law_whole : List D → Rs D) : SEnv → Rs Fl :=
  (sSq (sAs 8 (eA r_seek (aC (eA opList (aC (eV 2) aN)) (aC (eV 5) (aC (e2 opIx (eV 2) (eV 7)) aN)))))
  (sSq (sIf (bOr (bE (e2 opNe (e2 opIx (eV 8) (eC (.int 0))) (eC (.str "key")))) (bNot (bE (eA r__law_whole (aC (e2 opIx (eV 8) (eC (.int 1))) aN))))) (sRt (eC (.bool false))) sNx)
  (sAs 6 (e2 opAdd (eV 6) (e2 opMul (e2 opIx (eV 3) (eV 7)) (e2 opIx (eV 8) (eC (.int 1))))))))
theorem x_B1_law_k04 (r__law_many : List D → Rs D) (r__law_weights : List D → Rs D) (r__law_tree : List D → Rs D) (r__law_cell_at : List D → Rs D) (r_seek : List D → Rs D) (r__law_between : List D → Rs D) (r_cost : List D → Rs D) (r__law_keys : List D → Rs D) (r__law_whole : List D → Rs D) (env : SEnv) : B1_law_k04 r__law_many r__law_weights r__law_tree r__law_cell_at r_seek r__law_between r_cost r__law_keys r__law_whole env =
  (sSq (sAs 8 (eA r_seek (aC (eA opList (aC (eV 2) aN)) (aC (eV 5) (aC (e2 opIx (eV 2) (eV 7)) aN)))))
  (sSq (sIf (bOr (bE (e2 opNe (e2 opIx (eV 8) (eC (.int 0))) (eC (.str "key")))) (bNot (bE (eA r__law_whole (aC (e2 opIx (eV 8) (eC (.int 1))) aN))))) (sRt (eC (.bool false))) sNx)
  (sAs 6 (e2 opAdd (eV 6) (e2 opMul (e2 opIx (eV 3) (eV 7)) (e2 opIx (eV 8) (eC (.int 1)))))))) env := rfl
def B2_law_k04 (r__law_many : List D → Rs D) (r__law_weights : List D → Rs D) (r__law_tree : List D → Rs D) (r__law_cell_at : List D → Rs D) (r_seek : List D → Rs D) (r__law_between : List D → Rs D) (r_cost : List D → Rs D) (r__law_keys : List D → Rs D) (r__law_whole : List D → Rs D) : SEnv → Rs Fl :=
  (sSq (sAs 10 (eA r__law_between (aC (eV 2) (aC (eV 9) aN))))
  (sIf (bAnd (bE (e2 opNi (eV 10) (eV 2))) (bE (e2 opEq (eA opLen (aC (eLc (zLst (eV 2)) [11] 11 (bE (e2 opLt (eV 11) (eV 10))) (eV 11)) aN)) (eV 9)))) (sSq (sAs 8 (eA r_seek (aC (eA opList (aC (eV 2) aN)) (aC (eV 5) (aC (eV 10) aN)))))
  (sSq (sIf (bOr (bE (e2 opNe (eSl opSlT (eV 8) oN (oS (eC (.int 2)))) (eA mkT (aC (eC (.str "gap")) (aC (eV 9) aN))))) (bNot (bE (eA r__law_whole (aC (e2 opIx (eV 8) (eC (.int 2))) aN))))) (sRt (eC (.bool false))) sNx)
  (sAsB 6 (e2 opAdd (eV 6) (e2 opMul (e2 opIx (eV 4) (eV 9)) (e2 opIx (eV 8) (eC (.int 2)))))))) (sIt 4 (eV 9) (eC (.int 0)))))
theorem x_B2_law_k04 (r__law_many : List D → Rs D) (r__law_weights : List D → Rs D) (r__law_tree : List D → Rs D) (r__law_cell_at : List D → Rs D) (r_seek : List D → Rs D) (r__law_between : List D → Rs D) (r_cost : List D → Rs D) (r__law_keys : List D → Rs D) (r__law_whole : List D → Rs D) (env : SEnv) : B2_law_k04 r__law_many r__law_weights r__law_tree r__law_cell_at r_seek r__law_between r_cost r__law_keys r__law_whole env =
  (sSq (sAs 10 (eA r__law_between (aC (eV 2) (aC (eV 9) aN))))
  (sIf (bAnd (bE (e2 opNi (eV 10) (eV 2))) (bE (e2 opEq (eA opLen (aC (eLc (zLst (eV 2)) [11] 11 (bE (e2 opLt (eV 11) (eV 10))) (eV 11)) aN)) (eV 9)))) (sSq (sAs 8 (eA r_seek (aC (eA opList (aC (eV 2) aN)) (aC (eV 5) (aC (eV 10) aN)))))
  (sSq (sIf (bOr (bE (e2 opNe (eSl opSlT (eV 8) oN (oS (eC (.int 2)))) (eA mkT (aC (eC (.str "gap")) (aC (eV 9) aN))))) (bNot (bE (eA r__law_whole (aC (e2 opIx (eV 8) (eC (.int 2))) aN))))) (sRt (eC (.bool false))) sNx)
  (sAsB 6 (e2 opAdd (eV 6) (e2 opMul (e2 opIx (eV 4) (eV 9)) (e2 opIx (eV 8) (eC (.int 2)))))))) (sIt 4 (eV 9) (eC (.int 0))))) env := rfl
def F_law_k04 (r__law_many : List D → Rs D) (r__law_weights : List D → Rs D) (r__law_tree : List D → Rs D) (r__law_cell_at : List D → Rs D) (r_seek : List D → Rs D) (r__law_between : List D → Rs D) (r_cost : List D → Rs D) (r__law_keys : List D → Rs D) (r__law_whole : List D → Rs D) : SEnv → Rs Fl :=
  (sSq (sAs 1 (eA r__law_many (aC (eA r__law_cell_at (aC (eV 0) (aC (eC (.int 0)) aN))) (aC (eC (.int 12)) aN))))
  (sSq (sAs 2 (eLc (zLst (eA r__law_keys (aC (eV 0) (aC (eA opMin (aC (eV 1) (aC (eC (.int 7)) aN))) aN)))) [11] 11 yesB (eSl opSlS (eV 11) oN (oS (eC (.int 7))))))
  (sSq (sAs 1 (eA opLen (aC (eV 2) aN)))
  (sSq (sAs 3 (eA r__law_weights (aC (eV 0) (aC (eC (.int 2)) (aC (eV 1) aN)))))
  (sSq (sNw 4 (eA r__law_weights (aC (eV 0) (aC (eC (.int 15)) (aC (e2 opAdd (eV 1) (eC (.int 1))) aN)))))
  (sSq (sAs 5 (eA r__law_tree (aC (eV 2) (aC (eA r__law_cell_at (aC (eV 0) (aC (eC (.int 42)) aN))) (aC (eC (.int 0)) (aC (eV 1) aN))))))
  (sSq (sAs 6 (eC (.int 0)))
  (sSq (sFor (zR1 (eV 1)) (gS1 7) (B1_law_k04 r__law_many r__law_weights r__law_tree r__law_cell_at r_seek r__law_between r_cost r__law_keys r__law_whole))
  (sSq (sFor (zR1 (e2 opAdd (eV 1) (eC (.int 1)))) (gS1 9) (B2_law_k04 r__law_many r__law_weights r__law_tree r__law_cell_at r_seek r__law_between r_cost r__law_keys r__law_whole))
  (sRt (e2 opEq (eA r_cost (aC (eA opList (aC (eV 2) aN)) (aC (eA opList (aC (eV 3) aN)) (aC (eA opList (aC (eV 4) aN)) (aC (eV 5) aN))))) (eV 6))))))))))))
def R_law_k04 : Nat → List D → Rs D
  | 0 => fun _ => .bad
  | n + 1 => fnOf 12 1 .e (F_law_k04 (R__law_many n) (R__law_weights n) (R__law_tree n) (R__law_cell_at n) (R_seek n) (R__law_between n) (R_cost n) (R__law_keys n) (R__law_whole n))
theorem S_law_k04 (n : Nat) (ds : List D) : R_law_k04 (n + 1) ds = fnOf 12 1 .e (F_law_k04 (R__law_many n) (R__law_weights n) (R__law_tree n) (R__law_cell_at n) (R_seek n) (R__law_between n) (R_cost n) (R__law_keys n) (R__law_whole n)) ds := rfl
def N_tables : List Str := ["hits", "misses", "many", "worth", "root", "size", "first", "last", "whole", "some", "place"]
def B1_tables : SEnv → Rs Fl :=
  (sSq (sAs 7 (e2 opAdd (eV 6) (eV 5)))
  (sIf (bE (e2 opEq (eV 5) (eC (.int 0)))) (sDp 3 (eV 6) (eV 7) (eC (.int 0))) (sSq (sAs 8 (e2 opAdd (eA opSum (aC (eSl opSlL (eV 0) (oS (eV 6)) (oS (eV 7))) aN)) (eA opSum (aC (eSl opSlL (eV 1) (oS (eV 6)) (oS (e2 opAdd (eV 7) (eC (.int 1))))) aN))))
  (sSq (sNwB 9 (eLc (zR2 (eV 6) (eV 7)) [10] 10 yesB (e2 opAdd (eDg (eV 3) (eV 6) (eV 10)) (eDg (eV 3) (e2 opAdd (eV 10) (eC (.int 1))) (eV 7)))))
  (sSq (sDp 3 (eV 6) (eV 7) (e2 opAdd (eV 8) (eA opMin (aC (eV 9) aN))))
  (sDp 4 (eV 6) (eV 7) (e2 opAdd (eV 6) (eIndex (eV 9) (aC (eA opMin (aC (eV 9) aN)) aN)))))))))
theorem x_B1_tables (env : SEnv) : B1_tables env =
  (sSq (sAs 7 (e2 opAdd (eV 6) (eV 5)))
  (sIf (bE (e2 opEq (eV 5) (eC (.int 0)))) (sDp 3 (eV 6) (eV 7) (eC (.int 0))) (sSq (sAs 8 (e2 opAdd (eA opSum (aC (eSl opSlL (eV 0) (oS (eV 6)) (oS (eV 7))) aN)) (eA opSum (aC (eSl opSlL (eV 1) (oS (eV 6)) (oS (e2 opAdd (eV 7) (eC (.int 1))))) aN))))
  (sSq (sNwB 9 (eLc (zR2 (eV 6) (eV 7)) [10] 10 yesB (e2 opAdd (eDg (eV 3) (eV 6) (eV 10)) (eDg (eV 3) (e2 opAdd (eV 10) (eC (.int 1))) (eV 7)))))
  (sSq (sDp 3 (eV 6) (eV 7) (e2 opAdd (eV 8) (eA opMin (aC (eV 9) aN))))
  (sDp 4 (eV 6) (eV 7) (e2 opAdd (eV 6) (eIndex (eV 9) (aC (eA opMin (aC (eV 9) aN)) aN))))))))) env := rfl
def B2_tables : SEnv → Rs Fl :=
  (sFor (zR1 (e2 opSub (e2 opAdd (eV 2) (eC (.int 1))) (eV 5))) (gS1 6) (B1_tables))
theorem x_B2_tables (env : SEnv) : B2_tables env =
  (sFor (zR1 (e2 opSub (e2 opAdd (eV 2) (eC (.int 1))) (eV 5))) (gS1 6) (B1_tables)) env := rfl
def F_tables : SEnv → Rs Fl :=
  (sSq (sAs 2 (eA opLen (aC (eV 0) aN)))
  (sSq (sNw 3 (eC (.dict [])))
  (sSq (sNw 4 (eC (.dict [])))
  (sSq (sFor (zR1 (e2 opAdd (eV 2) (eC (.int 1)))) (gS1 5) (B2_tables))
  (sRt (eA mkT (aC (eV 3) (aC (eV 4) aN))))))))
def R_tables : Nat → List D → Rs D
  | 0 => fun _ => .bad
  | n + 1 => fnOf 11 2 .e (F_tables)
theorem S_tables (n : Nat) (ds : List D) : R_tables (n + 1) ds = fnOf 11 2 .e (F_tables) ds := rfl
def N_worths : List Str := ["keys", "hits", "misses", "many", "worth", "first", "last"]
def F_worths (r_ask_weights : List D → Rs D) (r_tables : List D → Rs D) : SEnv → Rs Fl :=
  (sSq (sEx (eA r_ask_weights (aC (eV 0) (aC (eV 1) (aC (eV 2) aN)))))
  (sSq (sAs 3 (eA opLen (aC (eV 0) aN)))
  (sSq (sAs 4 (e2 opIx (eA r_tables (aC (eV 1) (aC (eV 2) aN))) (eC (.int 0))))
  (sRt (eLc (zR1 (e2 opAdd (eV 3) (eC (.int 1)))) [5] 5 yesB (eLc (zR2 (eV 5) (e2 opAdd (eV 3) (eC (.int 1)))) [6] 6 yesB (eDg (eV 4) (eV 5) (eV 6))))))))
def R_worths : Nat → List D → Rs D
  | 0 => fun _ => .bad
  | n + 1 => fnOf 7 3 .n (F_worths (R_ask_weights n) (R_tables n))
theorem S_worths (n : Nat) (ds : List D) : R_worths (n + 1) ds = fnOf 7 3 .n (F_worths (R_ask_weights n) (R_tables n)) ds := rfl
def N_least : List Str := ["keys", "hits", "misses"]
def F_least (r_ask_weights : List D → Rs D) (r_tables : List D → Rs D) : SEnv → Rs Fl :=
  (sSq (sEx (eA r_ask_weights (aC (eV 0) (aC (eV 1) (aC (eV 2) aN)))))
  (sRt (eDg (e2 opIx (eA r_tables (aC (eV 1) (aC (eV 2) aN))) (eC (.int 0))) (eC (.int 0)) (eA opLen (aC (eV 0) aN)))))
def R_least : Nat → List D → Rs D
  | 0 => fun _ => .bad
  | n + 1 => fnOf 3 3 .e (F_least (R_ask_weights n) (R_tables n))
theorem S_least (n : Nat) (ds : List D) : R_least (n + 1) ds = fnOf 3 3 .e (F_least (R_ask_weights n) (R_tables n)) ds := rfl
def N__law_rows_are : List Str := ["found", "due", "row", "own", "one"]
def B1__law_rows_are (r__law_whole : List D → Rs D) : SEnv → Rs Fl :=
  (sIf (bOr (bNot (bE (e1 (opIsi "list") (eV 2)))) (bOr (bNot (bE (eA opAll (aC (eLc (zLst (eV 2)) [4] 4 yesB (eA r__law_whole (aC (eV 4) aN))) aN)))) (bE (e2 opNe (eV 2) (eV 3))))) (sRt (eC (.bool false))) sNx)
theorem x_B1__law_rows_are (r__law_whole : List D → Rs D) (env : SEnv) : B1__law_rows_are r__law_whole env =
  (sIf (bOr (bNot (bE (e1 (opIsi "list") (eV 2)))) (bOr (bNot (bE (eA opAll (aC (eLc (zLst (eV 2)) [4] 4 yesB (eA r__law_whole (aC (eV 4) aN))) aN)))) (bE (e2 opNe (eV 2) (eV 3))))) (sRt (eC (.bool false))) sNx) env := rfl
def F__law_rows_are (r__law_whole : List D → Rs D) : SEnv → Rs Fl :=
  (sSq (sIf (bOr (bNot (bE (e1 (opIsi "list") (eV 0)))) (bE (e2 opNe (eA opLen (aC (eV 0) aN)) (eA opLen (aC (eV 1) aN))))) (sRt (eC (.bool false))) sNx)
  (sSq (sFor (zZip (eV 0) (eV 1)) (gS2 2 3) (B1__law_rows_are r__law_whole))
  (sRt (eC (.bool true)))))
def R__law_rows_are : Nat → List D → Rs D
  | 0 => fun _ => .bad
  | n + 1 => fnOf 5 2 .e (F__law_rows_are (R__law_whole n))
theorem S__law_rows_are (n : Nat) (ds : List D) : R__law_rows_are (n + 1) ds = fnOf 5 2 .e (F__law_rows_are (R__law_whole n)) ds := rfl
def N__law_due_k05 : List Str := ["found", "hits", "misses", "first", "last", "whole", "some", "place", "left", "right"]
def B1__law_due_k05 : SEnv → Rs Fl :=
  (sSq (sAs 8 (e2 opIx (e2 opIx (eV 0) (eV 3)) (e2 opSub (eV 7) (eV 3))))
  (sSq (sAs 9 (e2 opIx (e2 opIx (eV 0) (e2 opAdd (eV 7) (eC (.int 1)))) (e2 opSub (e2 opSub (eV 4) (eV 7)) (eC (.int 1)))))
  (sAp 6 (e2 opAdd (eV 8) (eV 9)))))
theorem x_B1__law_due_k05 (env : SEnv) : B1__law_due_k05 env =
  (sSq (sAs 8 (e2 opIx (e2 opIx (eV 0) (eV 3)) (e2 opSub (eV 7) (eV 3))))
  (sSq (sAs 9 (e2 opIx (e2 opIx (eV 0) (e2 opAdd (eV 7) (eC (.int 1)))) (e2 opSub (e2 opSub (eV 4) (eV 7)) (eC (.int 1)))))
  (sAp 6 (e2 opAdd (eV 8) (eV 9))))) env := rfl
def F__law_due_k05 : SEnv → Rs Fl :=
  (sSq (sIf (bE (e2 opEq (eV 3) (eV 4))) (sRt (eC (.int 0))) sNx)
  (sSq (sAs 5 (e2 opAdd (eA opSum (aC (eSl opSlL (eV 1) (oS (eV 3)) (oS (eV 4))) aN)) (eA opSum (aC (eSl opSlL (eV 2) (oS (eV 3)) (oS (e2 opAdd (eV 4) (eC (.int 1))))) aN))))
  (sSq (sNw 6 (eA mkL aN))
  (sSq (sFor (zR2 (eV 3) (eV 4)) (gS1 7) (B1__law_due_k05))
  (sRt (e2 opAdd (eV 5) (eA opMin (aC (eV 6) aN))))))))
def R__law_due_k05 : Nat → List D → Rs D
  | 0 => fun _ => .bad
  | n + 1 => fnOf 10 5 .e (F__law_due_k05)
theorem S__law_due_k05 (n : Nat) (ds : List D) : R__law_due_k05 (n + 1) ds = fnOf 10 5 .e (F__law_due_k05) ds := rfl
def N__law_right : List Str := ["found", "hits", "misses", "many", "lengths", "first", "last", "one", "k", "row"]
def B1__law_right (r__law_whole : List D → Rs D) (r__law_due_k05 : List D → Rs D) : SEnv → Rs Fl :=
  (sSq (sAs 7 (e2 opIx (e2 opIx (eV 0) (eV 5)) (e2 opSub (eV 6) (eV 5))))
  (sIf (bOr (bNot (bE (eA r__law_whole (aC (eV 7) aN)))) (bE (e2 opNe (eV 7) (eA r__law_due_k05 (aC (eV 0) (aC (eV 1) (aC (eV 2) (aC (eV 5) (aC (eV 6) aN))))))))) (sRt (eC (.bool false))) sNx))
theorem x_B1__law_right (r__law_whole : List D → Rs D) (r__law_due_k05 : List D → Rs D) (env : SEnv) : B1__law_right r__law_whole r__law_due_k05 env =
  (sSq (sAs 7 (e2 opIx (e2 opIx (eV 0) (eV 5)) (e2 opSub (eV 6) (eV 5))))
  (sIf (bOr (bNot (bE (eA r__law_whole (aC (eV 7) aN)))) (bE (e2 opNe (eV 7) (eA r__law_due_k05 (aC (eV 0) (aC (eV 1) (aC (eV 2) (aC (eV 5) (aC (eV 6) aN))))))))) (sRt (eC (.bool false))) sNx)) env := rfl
def B2__law_right (r__law_whole : List D → Rs D) (r__law_due_k05 : List D → Rs D) : SEnv → Rs Fl :=
  (sFor (zR2 (eV 5) (e2 opAdd (eV 3) (eC (.int 1)))) (gS1 6) (B1__law_right r__law_whole r__law_due_k05))
theorem x_B2__law_right (r__law_whole : List D → Rs D) (r__law_due_k05 : List D → Rs D) (env : SEnv) : B2__law_right r__law_whole r__law_due_k05 env =
  (sFor (zR2 (eV 5) (e2 opAdd (eV 3) (eC (.int 1)))) (gS1 6) (B1__law_right r__law_whole r__law_due_k05)) env := rfl
def F__law_right (r__law_whole : List D → Rs D) (r__law_due_k05 : List D → Rs D) : SEnv → Rs Fl :=
  (sSq (sAs 3 (eA opLen (aC (eV 1) aN)))
  (sSq (sAs 4 (eLc (zR1 (e2 opAdd (eV 3) (eC (.int 1)))) [8] 8 yesB (e2 opSub (e2 opAdd (eV 3) (eC (.int 1))) (eV 8))))
  (sSq (sIf (bOr (bNot (bE (e1 (opIsi "list") (eV 0)))) (bE (e2 opNe (eLc (zLst (eV 0)) [9] 9 yesB (eA opLen (aC (eV 9) aN))) (eV 4)))) (sRt (eC (.bool false))) sNx)
  (sSq (sFor (zR1 (e2 opAdd (eV 3) (eC (.int 1)))) (gS1 5) (B2__law_right r__law_whole r__law_due_k05))
  (sRt (eC (.bool true)))))))
def R__law_right : Nat → List D → Rs D
  | 0 => fun _ => .bad
  | n + 1 => fnOf 10 3 .e (F__law_right (R__law_whole n) (R__law_due_k05 n))
theorem S__law_right (n : Nat) (ds : List D) : R__law_right (n + 1) ds = fnOf 10 3 .e (F__law_right (R__law_whole n) (R__law_due_k05 n)) ds := rfl
def N_law_k05 : List Str := ["script", "many", "keys", "hits", "misses", "handed", "turn", "found", "low"]
def B1_law_k05 (r__law_many : List D → Rs D) (r__law_keys : List D → Rs D) (r__law_weights : List D → Rs D) (r__law_cell_at : List D → Rs D) (r_worths : List D → Rs D) (r_least : List D → Rs D) (r__law_right : List D → Rs D) (r__law_whole : List D → Rs D) : SEnv → Rs Fl :=
  (sSq (sNn 7 (eA r_worths (aC (e2 opIx (eV 5) (eC (.int 0))) (aC (e2 opIx (eV 5) (eC (.int 1))) (aC (e2 opIx (eV 5) (eC (.int 2))) aN)))))
  (sSq (sIf (bOr (bNot (bE (eA r__law_right (aC (eV 7) (aC (eV 3) (aC (eV 4) aN)))))) (bE (e2 opNe (eV 5) (eA mkL (aC (eV 2) (aC (eV 3) (aC (eV 4) aN))))))) (sRt (eC (.bool false))) sNx)
  (sSq (sAs 8 (eA r_least (aC (e2 opIx (eV 5) (eC (.int 0))) (aC (e2 opIx (eV 5) (eC (.int 1))) (aC (e2 opIx (eV 5) (eC (.int 2))) aN)))))
  (sSq (sIf (bOr (bNot (bE (eA r__law_whole (aC (eV 8) aN)))) (bE (e2 opNe (eV 8) (e2 opIx (e2 opIx (eV 7) (eC (.int 0))) (eV 1))))) (sRt (eC (.bool false))) sNx)
  (sSq (sNap 7 (eC (.int 0)) (eC (.int 1)))
  (sSq (sNit 7 (eV 1) (eC (.int 0)) (eC (.int 5)))
  (sNp 7 (eA mkL aN))))))))
theorem x_B1_law_k05 (r__law_many : List D → Rs D) (r__law_keys : List D → Rs D) (r__law_weights : List D → Rs D) (r__law_cell_at : List D → Rs D) (r_worths : List D → Rs D) (r_least : List D → Rs D) (r__law_right : List D → Rs D) (r__law_whole : List D → Rs D) (env : SEnv) : B1_law_k05 r__law_many r__law_keys r__law_weights r__law_cell_at r_worths r_least r__law_right r__law_whole env =
  (sSq (sNn 7 (eA r_worths (aC (e2 opIx (eV 5) (eC (.int 0))) (aC (e2 opIx (eV 5) (eC (.int 1))) (aC (e2 opIx (eV 5) (eC (.int 2))) aN)))))
  (sSq (sIf (bOr (bNot (bE (eA r__law_right (aC (eV 7) (aC (eV 3) (aC (eV 4) aN)))))) (bE (e2 opNe (eV 5) (eA mkL (aC (eV 2) (aC (eV 3) (aC (eV 4) aN))))))) (sRt (eC (.bool false))) sNx)
  (sSq (sAs 8 (eA r_least (aC (e2 opIx (eV 5) (eC (.int 0))) (aC (e2 opIx (eV 5) (eC (.int 1))) (aC (e2 opIx (eV 5) (eC (.int 2))) aN)))))
  (sSq (sIf (bOr (bNot (bE (eA r__law_whole (aC (eV 8) aN)))) (bE (e2 opNe (eV 8) (e2 opIx (e2 opIx (eV 7) (eC (.int 0))) (eV 1))))) (sRt (eC (.bool false))) sNx)
  (sSq (sNap 7 (eC (.int 0)) (eC (.int 1)))
  (sSq (sNit 7 (eV 1) (eC (.int 0)) (eC (.int 5)))
  (sNp 7 (eA mkL aN)))))))) env := rfl
def F_law_k05 (r__law_many : List D → Rs D) (r__law_keys : List D → Rs D) (r__law_weights : List D → Rs D) (r__law_cell_at : List D → Rs D) (r_worths : List D → Rs D) (r_least : List D → Rs D) (r__law_right : List D → Rs D) (r__law_whole : List D → Rs D) : SEnv → Rs Fl :=
  (sSq (sAs 1 (eA r__law_many (aC (eA r__law_cell_at (aC (eV 0) (aC (eC (.int 0)) aN))) (aC (eC (.int 12)) aN))))
  (sSq (sAs 2 (eA r__law_keys (aC (eV 0) (aC (eV 1) aN))))
  (sSq (sAs 3 (eA r__law_weights (aC (eV 0) (aC (eC (.int 2)) (aC (eV 1) aN)))))
  (sSq (sAs 4 (eA r__law_weights (aC (eV 0) (aC (eC (.int 15)) (aC (e2 opAdd (eV 1) (eC (.int 1))) aN)))))
  (sSq (sAs 5 (eA mkL (aC (eA opList (aC (eV 2) aN)) (aC (eA opList (aC (eV 3) aN)) (aC (eA opList (aC (eV 4) aN)) aN)))))
  (sSq (sFor (zR1 (eC (.int 2))) (gS1 6) (B1_law_k05 r__law_many r__law_keys r__law_weights r__law_cell_at r_worths r_least r__law_right r__law_whole))
  (sRt (eC (.bool true)))))))))
def R_law_k05 : Nat → List D → Rs D
  | 0 => fun _ => .bad
  | n + 1 => fnOf 9 1 .e (F_law_k05 (R__law_many n) (R__law_keys n) (R__law_weights n) (R__law_cell_at n) (R_worths n) (R_least n) (R__law_right n) (R__law_whole n))
theorem S_law_k05 (n : Nat) (ds : List D) : R_law_k05 (n + 1) ds = fnOf 9 1 .e (F_law_k05 (R__law_many n) (R__law_keys n) (R__law_weights n) (R__law_cell_at n) (R_worths n) (R_least n) (R__law_right n) (R__law_whole n)) ds := rfl
def N_roots : List Str := ["keys", "hits", "misses", "many", "root", "first", "last"]
def F_roots (r_ask_weights : List D → Rs D) (r_tables : List D → Rs D) : SEnv → Rs Fl :=
  (sSq (sEx (eA r_ask_weights (aC (eV 0) (aC (eV 1) (aC (eV 2) aN)))))
  (sSq (sAs 3 (eA opLen (aC (eV 0) aN)))
  (sSq (sAs 4 (e2 opIx (eA r_tables (aC (eV 1) (aC (eV 2) aN))) (eC (.int 1))))
  (sRt (eLc (zR1 (eV 3)) [5] 5 yesB (eLc (zR2 (e2 opAdd (eV 5) (eC (.int 1))) (e2 opAdd (eV 3) (eC (.int 1)))) [6] 6 yesB (eDg (eV 4) (eV 5) (eV 6))))))))
def R_roots : Nat → List D → Rs D
  | 0 => fun _ => .bad
  | n + 1 => fnOf 7 3 .n (F_roots (R_ask_weights n) (R_tables n))
theorem S_roots (n : Nat) (ds : List D) : R_roots (n + 1) ds = fnOf 7 3 .n (F_roots (R_ask_weights n) (R_tables n)) ds := rfl
def N_built : List Str := ["keys", "root", "first", "last", "place"]
def F_built (r_built : List D → Rs D) : SEnv → Rs Fl :=
  (sSq (sIf (bE (e2 opEq (eV 2) (eV 3))) (sRt (eC .none)) sNx)
  (sSq (sAs 4 (eDg (eV 1) (eV 2) (eV 3)))
  (sRt (eA mkT (aC (e2 opIx (eV 0) (eV 4)) (aC (eA r_built (aC (eV 0) (aC (eV 1) (aC (eV 2) (aC (eV 4) aN))))) (aC (eA r_built (aC (eV 0) (aC (eV 1) (aC (e2 opAdd (eV 4) (eC (.int 1))) (aC (eV 3) aN))))) aN)))))))
def R_built : Nat → List D → Rs D
  | 0 => fun _ => .bad
  | n + 1 => fnOf 5 4 .e (F_built (R_built n))
theorem S_built (n : Nat) (ds : List D) : R_built (n + 1) ds = fnOf 5 4 .e (F_built (R_built n)) ds := rfl
def N_best : List Str := ["keys", "hits", "misses"]
def F_best (r_ask_weights : List D → Rs D) (r_built : List D → Rs D) (r_tables : List D → Rs D) : SEnv → Rs Fl :=
  (sSq (sEx (eA r_ask_weights (aC (eV 0) (aC (eV 1) (aC (eV 2) aN)))))
  (sRt (eA r_built (aC (eV 0) (aC (e2 opIx (eA r_tables (aC (eV 1) (aC (eV 2) aN))) (eC (.int 1))) (aC (eC (.int 0)) (aC (eA opLen (aC (eV 0) aN)) aN)))))))
def R_best : Nat → List D → Rs D
  | 0 => fun _ => .bad
  | n + 1 => fnOf 3 3 .e (F_best (R_ask_weights n) (R_built n) (R_tables n))
theorem S_best (n : Nat) (ds : List D) : R_best (n + 1) ds = fnOf 3 3 .e (F_best (R_ask_weights n) (R_built n) (R_tables n)) ds := rfl
def N__law_is_tree : List Str := ["tree", "keys", "place"]
def F__law_is_tree (r__law_is_tree : List D → Rs D) : SEnv → Rs Fl :=
  (sSq (sIf (bE (e2 opIs (eV 0) (eC .none))) (sRt (e2 opEq (eV 1) (eA mkL aN))) sNx)
  (sSq (sIf (bOr (bNot (bE (e1 (opIsi "tuple") (eV 0)))) (bOr (bE (e2 opNe (eA opLen (aC (eV 0) aN)) (eC (.int 3)))) (bOr (bNot (bE (e1 (opIsi "str") (e2 opIx (eV 0) (eC (.int 0)))))) (bE (e2 opNi (e2 opIx (eV 0) (eC (.int 0))) (eV 1)))))) (sRt (eC (.bool false))) sNx)
  (sSq (sAs 2 (eIndex (eV 1) (aC (e2 opIx (eV 0) (eC (.int 0))) aN)))
  (sRt (eAnd (eA r__law_is_tree (aC (e2 opIx (eV 0) (eC (.int 1))) (aC (eSl opSlL (eV 1) oN (oS (eV 2))) aN))) (eA r__law_is_tree (aC (e2 opIx (eV 0) (eC (.int 2))) (aC (eSl opSlL (eV 1) (oS (e2 opAdd (eV 2) (eC (.int 1)))) oN) aN))))))))
def R__law_is_tree : Nat → List D → Rs D
  | 0 => fun _ => .bad
  | n + 1 => fnOf 3 2 .e (F__law_is_tree (R__law_is_tree n))
theorem S__law_is_tree (n : Nat) (ds : List D) : R__law_is_tree (n + 1) ds = fnOf 3 2 .e (F__law_is_tree (R__law_is_tree n)) ds := rfl
def N__law_fits : List Str := ["tree", "keys", "hits", "misses", "first", "told", "last", "place"]
def F__law_fits (r__law_fits : List D → Rs D) (r__law_cost : List D → Rs D) : SEnv → Rs Fl :=
  (sSq (sAs 6 (e2 opAdd (eV 4) (eA opLen (aC (eV 1) aN))))
  (sSq (sIf (bE (e2 opNe (eA r__law_cost (aC (eV 0) (aC (eV 1) (aC (eV 2) (aC (eV 3) (aC (eC (.int 0)) aN)))))) (e2 opIx (e2 opIx (e2 opIx (eV 5) (eC (.int 0))) (eV 4)) (e2 opSub (eV 6) (eV 4))))) (sRt (eC (.bool false))) sNx)
  (sSq (sIf (bE (e2 opIs (eV 0) (eC .none))) (sRt (eC (.bool true))) sNx)
  (sSq (sAs 7 (eIndex (eV 1) (aC (e2 opIx (eV 0) (eC (.int 0))) aN)))
  (sSq (sIf (bE (e2 opNe (e2 opIx (e2 opIx (e2 opIx (eV 5) (eC (.int 1))) (eV 4)) (e2 opSub (e2 opSub (eV 6) (eV 4)) (eC (.int 1)))) (e2 opAdd (eV 4) (eV 7)))) (sRt (eC (.bool false))) sNx)
  (sSq (sIf (bNot (bE (eA r__law_fits (aC (e2 opIx (eV 0) (eC (.int 1))) (aC (eSl opSlL (eV 1) oN (oS (eV 7))) (aC (eSl opSlL (eV 2) oN (oS (eV 7))) (aC (eSl opSlL (eV 3) oN (oS (e2 opAdd (eV 7) (eC (.int 1))))) (aC (eV 4) (aC (eV 5) aN))))))))) (sRt (eC (.bool false))) sNx)
  (sRt (eA r__law_fits (aC (e2 opIx (eV 0) (eC (.int 2))) (aC (eSl opSlL (eV 1) (oS (e2 opAdd (eV 7) (eC (.int 1)))) oN) (aC (eSl opSlL (eV 2) (oS (e2 opAdd (eV 7) (eC (.int 1)))) oN) (aC (eSl opSlL (eV 3) (oS (e2 opAdd (eV 7) (eC (.int 1)))) oN) (aC (e2 opAdd (e2 opAdd (eV 4) (eV 7)) (eC (.int 1))) (aC (eV 5) aN))))))))))))))
def R__law_fits : Nat → List D → Rs D
  | 0 => fun _ => .bad
  | n + 1 => fnOf 8 6 .e (F__law_fits (R__law_fits n) (R__law_cost n))
theorem S__law_fits (n : Nat) (ds : List D) : R__law_fits (n + 1) ds = fnOf 8 6 .e (F__law_fits (R__law_fits n) (R__law_cost n)) ds := rfl
def N_law_k06 : List Str := ["script", "many", "keys", "hits", "misses", "handed", "tree", "told", "price", "other"]
def F_law_k06 (r__law_many : List D → Rs D) (r__law_keys : List D → Rs D) (r__law_weights : List D → Rs D) (r_best : List D → Rs D) (r__law_cost : List D → Rs D) (r__law_tree : List D → Rs D) (r__law_cell_at : List D → Rs D) (r_worths : List D → Rs D) (r_roots : List D → Rs D) (r__law_fits : List D → Rs D) (r__law_is_tree : List D → Rs D) (r_least : List D → Rs D) : SEnv → Rs Fl :=
  (sSq (sAs 1 (eA r__law_many (aC (eA r__law_cell_at (aC (eV 0) (aC (eC (.int 0)) aN))) (aC (eC (.int 12)) aN))))
  (sSq (sAs 2 (eA r__law_keys (aC (eV 0) (aC (eV 1) aN))))
  (sSq (sAs 3 (eA r__law_weights (aC (eV 0) (aC (eC (.int 2)) (aC (eV 1) aN)))))
  (sSq (sAs 4 (eA r__law_weights (aC (eV 0) (aC (eC (.int 15)) (aC (e2 opAdd (eV 1) (eC (.int 1))) aN)))))
  (sSq (sAs 5 (eA mkL (aC (eA opList (aC (eV 2) aN)) (aC (eA opList (aC (eV 3) aN)) (aC (eA opList (aC (eV 4) aN)) aN)))))
  (sSq (sAs 6 (eA r_best (aC (e2 opIx (eV 5) (eC (.int 0))) (aC (e2 opIx (eV 5) (eC (.int 1))) (aC (e2 opIx (eV 5) (eC (.int 2))) aN)))))
  (sSq (sIf (bOr (bNot (bE (eA r__law_is_tree (aC (eV 6) (aC (eV 2) aN))))) (bE (e2 opNe (eV 5) (eA mkL (aC (eV 2) (aC (eV 3) (aC (eV 4) aN))))))) (sRt (eC (.bool false))) sNx)
  (sSq (sAs 7 (eA mkL (aC (eN (eA r_worths (aC (e2 opIx (eV 5) (eC (.int 0))) (aC (e2 opIx (eV 5) (eC (.int 1))) (aC (e2 opIx (eV 5) (eC (.int 2))) aN))))) (aC (eN (eA r_roots (aC (e2 opIx (eV 5) (eC (.int 0))) (aC (e2 opIx (eV 5) (eC (.int 1))) (aC (e2 opIx (eV 5) (eC (.int 2))) aN))))) aN))))
  (sSq (sIf (bNot (bE (eA r__law_fits (aC (eV 6) (aC (eV 2) (aC (eV 3) (aC (eV 4) (aC (eC (.int 0)) (aC (eV 7) aN))))))))) (sRt (eC (.bool false))) sNx)
  (sSq (sAs 8 (eA r__law_cost (aC (eV 6) (aC (eV 2) (aC (eV 3) (aC (eV 4) (aC (eC (.int 0)) aN)))))))
  (sSq (sAs 9 (eA r__law_tree (aC (eV 2) (aC (eA r__law_cell_at (aC (eV 0) (aC (eC (.int 42)) aN))) (aC (eC (.int 0)) (aC (eV 1) aN))))))
  (sRt (eAnd (e2 opEq (eV 8) (eA r_least (aC (e2 opIx (eV 5) (eC (.int 0))) (aC (e2 opIx (eV 5) (eC (.int 1))) (aC (e2 opIx (eV 5) (eC (.int 2))) aN))))) (e2 opLe (eV 8) (eA r__law_cost (aC (eV 9) (aC (eV 2) (aC (eV 3) (aC (eV 4) (aC (eC (.int 0)) aN))))))))))))))))))))
def R_law_k06 : Nat → List D → Rs D
  | 0 => fun _ => .bad
  | n + 1 => fnOf 10 1 .e (F_law_k06 (R__law_many n) (R__law_keys n) (R__law_weights n) (R_best n) (R__law_cost n) (R__law_tree n) (R__law_cell_at n) (R_worths n) (R_roots n) (R__law_fits n) (R__law_is_tree n) (R_least n))
theorem S_law_k06 (n : Nat) (ds : List D) : R_law_k06 (n + 1) ds = fnOf 10 1 .e (F_law_k06 (R__law_many n) (R__law_keys n) (R__law_weights n) (R_best n) (R__law_cost n) (R__law_tree n) (R__law_cell_at n) (R_worths n) (R_roots n) (R__law_fits n) (R__law_is_tree n) (R_least n)) ds := rfl
def N__law_all : List Str := ["keys", "found", "place", "left", "right"]
def B1__law_all (r__law_all : List D → Rs D) : SEnv → Rs Fl :=
  (sXt 1 (eLc (zLst (eA r__law_all (aC (eSl opSlL (eV 0) (oS (e2 opAdd (eV 2) (eC (.int 1)))) oN) aN))) [4] 4 yesB (eA mkT (aC (e2 opIx (eV 0) (eV 2)) (aC (eV 3) (aC (eV 4) aN))))))
theorem x_B1__law_all (r__law_all : List D → Rs D) (env : SEnv) : B1__law_all r__law_all env =
  (sXt 1 (eLc (zLst (eA r__law_all (aC (eSl opSlL (eV 0) (oS (e2 opAdd (eV 2) (eC (.int 1)))) oN) aN))) [4] 4 yesB (eA mkT (aC (e2 opIx (eV 0) (eV 2)) (aC (eV 3) (aC (eV 4) aN)))))) env := rfl
def B2__law_all (r__law_all : List D → Rs D) : SEnv → Rs Fl :=
  (sFor (zLst (eA r__law_all (aC (eSl opSlL (eV 0) oN (oS (eV 2))) aN))) (gS1 3) (B1__law_all r__law_all))
theorem x_B2__law_all (r__law_all : List D → Rs D) (env : SEnv) : B2__law_all r__law_all env =
  (sFor (zLst (eA r__law_all (aC (eSl opSlL (eV 0) oN (oS (eV 2))) aN))) (gS1 3) (B1__law_all r__law_all)) env := rfl
def F__law_all (r__law_all : List D → Rs D) : SEnv → Rs Fl :=
  (sSq (sIf (bE (e2 opEq (eV 0) (eA mkL aN))) (sRt (eA mkL (aC (eC .none) aN))) sNx)
  (sSq (sNw 1 (eA mkL aN))
  (sSq (sFor (zR1 (eA opLen (aC (eV 0) aN))) (gS1 2) (B2__law_all r__law_all))
  (sRtV 1))))
def R__law_all : Nat → List D → Rs D
  | 0 => fun _ => .bad
  | n + 1 => fnOf 5 1 .o (F__law_all (R__law_all n))
theorem S__law_all (n : Nat) (ds : List D) : R__law_all (n + 1) ds = fnOf 5 1 .o (F__law_all (R__law_all n)) ds := rfl
def N_law_k07 : List Str := ["script", "many", "keys", "hits", "misses", "trees", "costs", "low", "tree"]
def F_law_k07 (r__law_keys : List D → Rs D) (r__law_weights : List D → Rs D) (r__law_all : List D → Rs D) (r_least : List D → Rs D) (r__law_cell_at : List D → Rs D) (r__law_cost : List D → Rs D) (r_best : List D → Rs D) (r__law_whole : List D → Rs D) : SEnv → Rs Fl :=
  (sSq (sAs 1 (e2 opMod (eA r__law_cell_at (aC (eV 0) (aC (eC (.int 0)) aN))) (eC (.int 6))))
  (sSq (sAs 2 (eA r__law_keys (aC (eV 0) (aC (eV 1) aN))))
  (sSq (sAs 3 (eA r__law_weights (aC (eV 0) (aC (eC (.int 2)) (aC (eV 1) aN)))))
  (sSq (sAs 4 (eA r__law_weights (aC (eV 0) (aC (eC (.int 15)) (aC (e2 opAdd (eV 1) (eC (.int 1))) aN)))))
  (sSq (sAs 5 (eA r__law_all (aC (eV 2) aN)))
  (sSq (sAs 6 (eLc (zLst (eV 5)) [8] 8 yesB (eA r__law_cost (aC (eV 8) (aC (eV 2) (aC (eV 3) (aC (eV 4) (aC (eC (.int 0)) aN))))))))
  (sSq (sAs 7 (eA r_least (aC (eA opList (aC (eV 2) aN)) (aC (eA opList (aC (eV 3) aN)) (aC (eA opList (aC (eV 4) aN)) aN)))))
  (sSq (sIf (bOr (bNot (bE (eA r__law_whole (aC (eV 7) aN)))) (bE (e2 opNe (eV 7) (eA opMin (aC (eV 6) aN))))) (sRt (eC (.bool false))) sNx)
  (sRt (e2 opEq (eA r_best (aC (eA opList (aC (eV 2) aN)) (aC (eA opList (aC (eV 3) aN)) (aC (eA opList (aC (eV 4) aN)) aN)))) (e2 opIx (eV 5) (eIndex (eV 6) (aC (eV 7) aN)))))))))))))
def R_law_k07 : Nat → List D → Rs D
  | 0 => fun _ => .bad
  | n + 1 => fnOf 9 1 .e (F_law_k07 (R__law_keys n) (R__law_weights n) (R__law_all n) (R_least n) (R__law_cell_at n) (R__law_cost n) (R_best n) (R__law_whole n))
theorem S_law_k07 (n : Nat) (ds : List D) : R_law_k07 (n + 1) ds = fnOf 9 1 .e (F_law_k07 (R__law_keys n) (R__law_weights n) (R__law_all n) (R_least n) (R__law_cell_at n) (R__law_cost n) (R_best n) (R__law_whole n)) ds := rfl
def N__law_due_k08 : List Str := ["found", "hits", "misses", "first", "last", "whole", "place", "left", "right"]
def B1__law_due_k08 : SEnv → Rs Fl :=
  (sSq (sAs 7 (e2 opIx (e2 opIx (eV 0) (eV 3)) (e2 opSub (eV 6) (eV 3))))
  (sSq (sAs 8 (e2 opIx (e2 opIx (eV 0) (e2 opAdd (eV 6) (eC (.int 1)))) (e2 opSub (e2 opSub (eV 4) (eV 6)) (eC (.int 1)))))
  (sIf (bE (e2 opEq (e2 opAdd (e2 opAdd (eV 5) (eV 7)) (eV 8)) (e2 opIx (e2 opIx (eV 0) (eV 3)) (e2 opSub (eV 4) (eV 3))))) (sRt (eV 6)) sNx)))
theorem x_B1__law_due_k08 (env : SEnv) : B1__law_due_k08 env =
  (sSq (sAs 7 (e2 opIx (e2 opIx (eV 0) (eV 3)) (e2 opSub (eV 6) (eV 3))))
  (sSq (sAs 8 (e2 opIx (e2 opIx (eV 0) (e2 opAdd (eV 6) (eC (.int 1)))) (e2 opSub (e2 opSub (eV 4) (eV 6)) (eC (.int 1)))))
  (sIf (bE (e2 opEq (e2 opAdd (e2 opAdd (eV 5) (eV 7)) (eV 8)) (e2 opIx (e2 opIx (eV 0) (eV 3)) (e2 opSub (eV 4) (eV 3))))) (sRt (eV 6)) sNx))) env := rfl
def F__law_due_k08 : SEnv → Rs Fl :=
  (sSq (sAs 5 (e2 opAdd (eA opSum (aC (eSl opSlL (eV 1) (oS (eV 3)) (oS (eV 4))) aN)) (eA opSum (aC (eSl opSlL (eV 2) (oS (eV 3)) (oS (e2 opAdd (eV 4) (eC (.int 1))))) aN))))
  (sSq (sFor (zR2 (eV 3) (eV 4)) (gS1 6) (B1__law_due_k08))
  (sRt (e1 opNeg (eC (.int 1))))))
def R__law_due_k08 : Nat → List D → Rs D
  | 0 => fun _ => .bad
  | n + 1 => fnOf 9 5 .e (F__law_due_k08)
theorem S__law_due_k08 (n : Nat) (ds : List D) : R__law_due_k08 (n + 1) ds = fnOf 9 5 .e (F__law_due_k08) ds := rfl
def N_law_k08 : List Str := ["script", "many", "keys", "hits", "misses", "table", "due", "first", "handed", "turn", "found", "last"]
def B1_law_k08 (r__law_many : List D → Rs D) (r__law_keys : List D → Rs D) (r__law_weights : List D → Rs D) (r_worths : List D → Rs D) (r__law_cell_at : List D → Rs D) (r_roots : List D → Rs D) (r__law_due_k08 : List D → Rs D) (r__law_rows_are : List D → Rs D) : SEnv → Rs Fl :=
  (sAp 6 (eLc (zR2 (e2 opAdd (eV 7) (eC (.int 1))) (e2 opAdd (eV 1) (eC (.int 1)))) [11] 11 yesB (eA r__law_due_k08 (aC (eV 5) (aC (eV 3) (aC (eV 4) (aC (eV 7) (aC (eV 11) aN))))))))
theorem x_B1_law_k08 (r__law_many : List D → Rs D) (r__law_keys : List D → Rs D) (r__law_weights : List D → Rs D) (r_worths : List D → Rs D) (r__law_cell_at : List D → Rs D) (r_roots : List D → Rs D) (r__law_due_k08 : List D → Rs D) (r__law_rows_are : List D → Rs D) (env : SEnv) : B1_law_k08 r__law_many r__law_keys r__law_weights r_worths r__law_cell_at r_roots r__law_due_k08 r__law_rows_are env =
  (sAp 6 (eLc (zR2 (e2 opAdd (eV 7) (eC (.int 1))) (e2 opAdd (eV 1) (eC (.int 1)))) [11] 11 yesB (eA r__law_due_k08 (aC (eV 5) (aC (eV 3) (aC (eV 4) (aC (eV 7) (aC (eV 11) aN)))))))) env := rfl
def B2_law_k08 (r__law_many : List D → Rs D) (r__law_keys : List D → Rs D) (r__law_weights : List D → Rs D) (r_worths : List D → Rs D) (r__law_cell_at : List D → Rs D) (r_roots : List D → Rs D) (r__law_due_k08 : List D → Rs D) (r__law_rows_are : List D → Rs D) : SEnv → Rs Fl :=
  (sSq (sNn 10 (eA r_roots (aC (e2 opIx (eV 8) (eC (.int 0))) (aC (e2 opIx (eV 8) (eC (.int 1))) (aC (e2 opIx (eV 8) (eC (.int 2))) aN)))))
  (sSq (sIf (bOr (bNot (bE (eA r__law_rows_are (aC (eV 10) (aC (eV 6) aN))))) (bE (e2 opNe (eV 8) (eA mkL (aC (eV 2) (aC (eV 3) (aC (eV 4) aN))))))) (sRt (eC (.bool false))) sNx)
  (sSq (sIf (bE (e2 opGt (eV 1) (eC (.int 0)))) (sNit 10 (eC (.int 0)) (eC (.int 0)) (eC (.int 50))) sNx)
  (sNp 10 (eA mkL aN)))))
theorem x_B2_law_k08 (r__law_many : List D → Rs D) (r__law_keys : List D → Rs D) (r__law_weights : List D → Rs D) (r_worths : List D → Rs D) (r__law_cell_at : List D → Rs D) (r_roots : List D → Rs D) (r__law_due_k08 : List D → Rs D) (r__law_rows_are : List D → Rs D) (env : SEnv) : B2_law_k08 r__law_many r__law_keys r__law_weights r_worths r__law_cell_at r_roots r__law_due_k08 r__law_rows_are env =
  (sSq (sNn 10 (eA r_roots (aC (e2 opIx (eV 8) (eC (.int 0))) (aC (e2 opIx (eV 8) (eC (.int 1))) (aC (e2 opIx (eV 8) (eC (.int 2))) aN)))))
  (sSq (sIf (bOr (bNot (bE (eA r__law_rows_are (aC (eV 10) (aC (eV 6) aN))))) (bE (e2 opNe (eV 8) (eA mkL (aC (eV 2) (aC (eV 3) (aC (eV 4) aN))))))) (sRt (eC (.bool false))) sNx)
  (sSq (sIf (bE (e2 opGt (eV 1) (eC (.int 0)))) (sNit 10 (eC (.int 0)) (eC (.int 0)) (eC (.int 50))) sNx)
  (sNp 10 (eA mkL aN))))) env := rfl
def F_law_k08 (r__law_many : List D → Rs D) (r__law_keys : List D → Rs D) (r__law_weights : List D → Rs D) (r_worths : List D → Rs D) (r__law_cell_at : List D → Rs D) (r_roots : List D → Rs D) (r__law_due_k08 : List D → Rs D) (r__law_rows_are : List D → Rs D) : SEnv → Rs Fl :=
  (sSq (sAs 1 (eA r__law_many (aC (eA r__law_cell_at (aC (eV 0) (aC (eC (.int 0)) aN))) (aC (eC (.int 12)) aN))))
  (sSq (sAs 2 (eA r__law_keys (aC (eV 0) (aC (eV 1) aN))))
  (sSq (sAs 3 (eA r__law_weights (aC (eV 0) (aC (eC (.int 2)) (aC (eV 1) aN)))))
  (sSq (sAs 4 (eA r__law_weights (aC (eV 0) (aC (eC (.int 15)) (aC (e2 opAdd (eV 1) (eC (.int 1))) aN)))))
  (sSq (sAs 5 (eN (eA r_worths (aC (eA opList (aC (eV 2) aN)) (aC (eA opList (aC (eV 3) aN)) (aC (eA opList (aC (eV 4) aN)) aN))))))
  (sSq (sNw 6 (eA mkL aN))
  (sSq (sFor (zR1 (eV 1)) (gS1 7) (B1_law_k08 r__law_many r__law_keys r__law_weights r_worths r__law_cell_at r_roots r__law_due_k08 r__law_rows_are))
  (sSq (sAs 8 (eA mkL (aC (eA opList (aC (eV 2) aN)) (aC (eA opList (aC (eV 3) aN)) (aC (eA opList (aC (eV 4) aN)) aN)))))
  (sSq (sFor (zR1 (eC (.int 2))) (gS1 9) (B2_law_k08 r__law_many r__law_keys r__law_weights r_worths r__law_cell_at r_roots r__law_due_k08 r__law_rows_are))
  (sRt (eC (.bool true))))))))))))
def R_law_k08 : Nat → List D → Rs D
  | 0 => fun _ => .bad
  | n + 1 => fnOf 12 1 .e (F_law_k08 (R__law_many n) (R__law_keys n) (R__law_weights n) (R_worths n) (R__law_cell_at n) (R_roots n) (R__law_due_k08 n) (R__law_rows_are n))
theorem S_law_k08 (n : Nat) (ds : List D) : R_law_k08 (n + 1) ds = fnOf 12 1 .e (F_law_k08 (R__law_many n) (R__law_keys n) (R__law_weights n) (R_worths n) (R__law_cell_at n) (R_roots n) (R__law_due_k08 n) (R__law_rows_are n)) ds := rfl
def N_law_k09 : List Str := ["script", "many", "keys", "hits", "misses", "table", "first", "last", "here"]
def B1_law_k09 (r__law_many : List D → Rs D) (r__law_keys : List D → Rs D) (r__law_weights : List D → Rs D) (r_roots : List D → Rs D) (r__law_cell_at : List D → Rs D) (r__law_whole : List D → Rs D) : SEnv → Rs Fl :=
  (sSq (sAs 8 (e2 opIx (e2 opIx (eV 5) (eV 6)) (e2 opSub (e2 opSub (eV 7) (eV 6)) (eC (.int 1)))))
  (sSq (sIf (bOr (bNot (bE (eA r__law_whole (aC (eV 8) aN)))) (bNot (bE (eCh opLe opLt (eV 6) (eV 8) (eV 7))))) (sRt (eC (.bool false))) sNx)
  (sIf (bE (e2 opGt (e2 opSub (eV 7) (eV 6)) (eC (.int 1)))) (sIf (bOr (bE (e2 opLt (eV 8) (e2 opIx (e2 opIx (eV 5) (eV 6)) (e2 opSub (e2 opSub (eV 7) (eV 6)) (eC (.int 2)))))) (bE (e2 opGt (eV 8) (e2 opIx (e2 opIx (eV 5) (e2 opAdd (eV 6) (eC (.int 1)))) (e2 opSub (e2 opSub (eV 7) (eV 6)) (eC (.int 2))))))) (sRt (eC (.bool false))) sNx) sNx)))
theorem x_B1_law_k09 (r__law_many : List D → Rs D) (r__law_keys : List D → Rs D) (r__law_weights : List D → Rs D) (r_roots : List D → Rs D) (r__law_cell_at : List D → Rs D) (r__law_whole : List D → Rs D) (env : SEnv) : B1_law_k09 r__law_many r__law_keys r__law_weights r_roots r__law_cell_at r__law_whole env =
  (sSq (sAs 8 (e2 opIx (e2 opIx (eV 5) (eV 6)) (e2 opSub (e2 opSub (eV 7) (eV 6)) (eC (.int 1)))))
  (sSq (sIf (bOr (bNot (bE (eA r__law_whole (aC (eV 8) aN)))) (bNot (bE (eCh opLe opLt (eV 6) (eV 8) (eV 7))))) (sRt (eC (.bool false))) sNx)
  (sIf (bE (e2 opGt (e2 opSub (eV 7) (eV 6)) (eC (.int 1)))) (sIf (bOr (bE (e2 opLt (eV 8) (e2 opIx (e2 opIx (eV 5) (eV 6)) (e2 opSub (e2 opSub (eV 7) (eV 6)) (eC (.int 2)))))) (bE (e2 opGt (eV 8) (e2 opIx (e2 opIx (eV 5) (e2 opAdd (eV 6) (eC (.int 1)))) (e2 opSub (e2 opSub (eV 7) (eV 6)) (eC (.int 2))))))) (sRt (eC (.bool false))) sNx) sNx))) env := rfl
def B2_law_k09 (r__law_many : List D → Rs D) (r__law_keys : List D → Rs D) (r__law_weights : List D → Rs D) (r_roots : List D → Rs D) (r__law_cell_at : List D → Rs D) (r__law_whole : List D → Rs D) : SEnv → Rs Fl :=
  (sFor (zR2 (e2 opAdd (eV 6) (eC (.int 1))) (e2 opAdd (eV 1) (eC (.int 1)))) (gS1 7) (B1_law_k09 r__law_many r__law_keys r__law_weights r_roots r__law_cell_at r__law_whole))
theorem x_B2_law_k09 (r__law_many : List D → Rs D) (r__law_keys : List D → Rs D) (r__law_weights : List D → Rs D) (r_roots : List D → Rs D) (r__law_cell_at : List D → Rs D) (r__law_whole : List D → Rs D) (env : SEnv) : B2_law_k09 r__law_many r__law_keys r__law_weights r_roots r__law_cell_at r__law_whole env =
  (sFor (zR2 (e2 opAdd (eV 6) (eC (.int 1))) (e2 opAdd (eV 1) (eC (.int 1)))) (gS1 7) (B1_law_k09 r__law_many r__law_keys r__law_weights r_roots r__law_cell_at r__law_whole)) env := rfl
def F_law_k09 (r__law_many : List D → Rs D) (r__law_keys : List D → Rs D) (r__law_weights : List D → Rs D) (r_roots : List D → Rs D) (r__law_cell_at : List D → Rs D) (r__law_whole : List D → Rs D) : SEnv → Rs Fl :=
  (sSq (sAs 1 (eA r__law_many (aC (eA r__law_cell_at (aC (eV 0) (aC (eC (.int 0)) aN))) (aC (eC (.int 12)) aN))))
  (sSq (sAs 2 (eA r__law_keys (aC (eV 0) (aC (eV 1) aN))))
  (sSq (sAs 3 (eA r__law_weights (aC (eV 0) (aC (eC (.int 2)) (aC (eV 1) aN)))))
  (sSq (sAs 4 (eA r__law_weights (aC (eV 0) (aC (eC (.int 15)) (aC (e2 opAdd (eV 1) (eC (.int 1))) aN)))))
  (sSq (sAs 5 (eN (eA r_roots (aC (eA opList (aC (eV 2) aN)) (aC (eA opList (aC (eV 3) aN)) (aC (eA opList (aC (eV 4) aN)) aN))))))
  (sSq (sFor (zR1 (eV 1)) (gS1 6) (B2_law_k09 r__law_many r__law_keys r__law_weights r_roots r__law_cell_at r__law_whole))
  (sRt (eC (.bool true)))))))))
def R_law_k09 : Nat → List D → Rs D
  | 0 => fun _ => .bad
  | n + 1 => fnOf 9 1 .e (F_law_k09 (R__law_many n) (R__law_keys n) (R__law_weights n) (R_roots n) (R__law_cell_at n) (R__law_whole n))
theorem S_law_k09 (n : Nat) (ds : List D) : R_law_k09 (n + 1) ds = fnOf 9 1 .e (F_law_k09 (R__law_many n) (R__law_keys n) (R__law_weights n) (R_roots n) (R__law_cell_at n) (R__law_whole n)) ds := rfl
def N__law_size : List Str := ["tree"]
def F__law_size (r__law_size : List D → Rs D) : SEnv → Rs Fl :=
  (sSq (sIf (bE (e2 opIs (eV 0) (eC .none))) (sRt (eC (.int 0))) sNx)
  (sRt (e2 opAdd (e2 opAdd (eA r__law_size (aC (e2 opIx (eV 0) (eC (.int 1))) aN)) (eC (.int 1))) (eA r__law_size (aC (e2 opIx (eV 0) (eC (.int 2))) aN)))))
def R__law_size : Nat → List D → Rs D
  | 0 => fun _ => .bad
  | n + 1 => fnOf 1 1 .e (F__law_size (R__law_size n))
theorem S__law_size (n : Nat) (ds : List D) : R__law_size (n + 1) ds = fnOf 1 1 .e (F__law_size (R__law_size n)) ds := rfl
def N__law_gap_steps : List Str := ["tree", "gap", "size"]
def F__law_gap_steps (r__law_size : List D → Rs D) (r__law_gap_steps : List D → Rs D) : SEnv → Rs Fl :=
  (sSq (sIf (bE (e2 opIs (eV 0) (eC .none))) (sRt (eC (.int 0))) sNx)
  (sSq (sAs 2 (eA r__law_size (aC (e2 opIx (eV 0) (eC (.int 1))) aN)))
  (sSq (sIf (bE (e2 opLe (eV 1) (eV 2))) (sRt (e2 opAdd (eC (.int 1)) (eA r__law_gap_steps (aC (e2 opIx (eV 0) (eC (.int 1))) (aC (eV 1) aN))))) sNx)
  (sRt (e2 opAdd (eC (.int 1)) (eA r__law_gap_steps (aC (e2 opIx (eV 0) (eC (.int 2))) (aC (e2 opSub (e2 opSub (eV 1) (eV 2)) (eC (.int 1))) aN))))))))
def R__law_gap_steps : Nat → List D → Rs D
  | 0 => fun _ => .bad
  | n + 1 => fnOf 3 2 .e (F__law_gap_steps (R__law_size n) (R__law_gap_steps n))
theorem S__law_gap_steps (n : Nat) (ds : List D) : R__law_gap_steps (n + 1) ds = fnOf 3 2 .e (F__law_gap_steps (R__law_size n) (R__law_gap_steps n)) ds := rfl
def N_law_k10 : List Str := ["script", "many", "keys", "hits", "misses", "tree", "low", "more", "place", "steps", "now", "weight"]
def F_law_k10 (r__law_keys : List D → Rs D) (r_best : List D → Rs D) (r_least : List D → Rs D) (r__law_many : List D → Rs D) (r__law_cell_at : List D → Rs D) (r__law_steps : List D → Rs D) (r__law_gap_steps : List D → Rs D) (r__law_whole : List D → Rs D) (r__law_weights : List D → Rs D) : SEnv → Rs Fl :=
  (sSq (sAs 1 (eA opMax (aC (eC (.int 1)) (aC (eA r__law_many (aC (eA r__law_cell_at (aC (eV 0) (aC (eC (.int 0)) aN))) (aC (eC (.int 12)) aN))) aN))))
  (sSq (sAs 2 (eA r__law_keys (aC (eV 0) (aC (eV 1) aN))))
  (sSq (sNw 3 (eLc (zLst (eA r__law_weights (aC (eV 0) (aC (eC (.int 2)) (aC (eV 1) aN))))) [11] 11 yesB (eA opMin (aC (eC (.int 999900)) (aC (eV 11) aN)))))
  (sSq (sNw 4 (eLc (zLst (eA r__law_weights (aC (eV 0) (aC (eC (.int 15)) (aC (e2 opAdd (eV 1) (eC (.int 1))) aN))))) [11] 11 yesB (eA opMin (aC (eC (.int 999900)) (aC (eV 11) aN)))))
  (sSq (sAsB 5 (eA r_best (aC (eA opList (aC (eV 2) aN)) (aC (eA opList (aC (eV 3) aN)) (aC (eA opList (aC (eV 4) aN)) aN)))))
  (sSq (sAsB 6 (eA r_least (aC (eA opList (aC (eV 2) aN)) (aC (eA opList (aC (eV 3) aN)) (aC (eA opList (aC (eV 4) aN)) aN)))))
  (sSq (sAs 7 (e2 opMod (eA r__law_cell_at (aC (eV 0) (aC (eC (.int 43)) aN))) (eC (.int 100))))
  (sSq (sAs 8 (e2 opMod (eA r__law_cell_at (aC (eV 0) (aC (eC (.int 44)) aN))) (e2 opAdd (e2 opMul (eC (.int 2)) (eV 1)) (eC (.int 1)))))
  (sSq (sIf (bE (e2 opLt (eV 8) (eV 1))) (sSq (sIt 3 (eV 8) (e2 opAdd (e2 opIx (eV 3) (eV 8)) (eV 7)))
  (sAs 9 (eA r__law_steps (aC (eV 5) (aC (e2 opIx (eV 2) (eV 8)) aN))))) (sSq (sIt 4 (e2 opSub (eV 8) (eV 1)) (e2 opAdd (e2 opIx (eV 4) (e2 opSub (eV 8) (eV 1))) (eV 7)))
  (sAs 9 (eA r__law_gap_steps (aC (eV 5) (aC (e2 opSub (eV 8) (eV 1)) aN))))))
  (sSq (sAsB 10 (eA r_least (aC (eA opList (aC (eV 2) aN)) (aC (eA opList (aC (eV 3) aN)) (aC (eA opList (aC (eV 4) aN)) aN)))))
  (sRt (eAnd (eA r__law_whole (aC (eV 10) aN)) (eCh opLe opLe (eV 6) (eV 10) (e2 opAdd (eV 6) (e2 opMul (eV 7) (eV 9))))))))))))))))
def R_law_k10 : Nat → List D → Rs D
  | 0 => fun _ => .bad
  | n + 1 => fnOf 12 1 .e (F_law_k10 (R__law_keys n) (R_best n) (R_least n) (R__law_many n) (R__law_cell_at n) (R__law_steps n) (R__law_gap_steps n) (R__law_whole n) (R__law_weights n))
theorem S_law_k10 (n : Nat) (ds : List D) : R_law_k10 (n + 1) ds = fnOf 12 1 .e (F_law_k10 (R__law_keys n) (R_best n) (R_least n) (R__law_many n) (R__law_cell_at n) (R__law_steps n) (R__law_gap_steps n) (R__law_whole n) (R__law_weights n)) ds := rfl
def N_law_k11 : List Str := ["script", "many", "keys", "hits", "misses", "low", "by", "tall", "weight"]
def F_law_k11 (r__law_many : List D → Rs D) (r__law_keys : List D → Rs D) (r_least : List D → Rs D) (r__law_cell_at : List D → Rs D) (r_best : List D → Rs D) (r__law_weights : List D → Rs D) (r__law_whole : List D → Rs D) : SEnv → Rs Fl :=
  (sSq (sAs 1 (eA r__law_many (aC (eA r__law_cell_at (aC (eV 0) (aC (eC (.int 0)) aN))) (aC (eC (.int 12)) aN))))
  (sSq (sAs 2 (eA r__law_keys (aC (eV 0) (aC (eV 1) aN))))
  (sSq (sAs 3 (eLc (zLst (eA r__law_weights (aC (eV 0) (aC (eC (.int 2)) (aC (eV 1) aN))))) [8] 8 yesB (e2 opMod (eV 8) (eC (.int 100001)))))
  (sSq (sAs 4 (eLc (zLst (eA r__law_weights (aC (eV 0) (aC (eC (.int 15)) (aC (e2 opAdd (eV 1) (eC (.int 1))) aN))))) [8] 8 yesB (e2 opMod (eV 8) (eC (.int 100001)))))
  (sSq (sAs 5 (eA r_least (aC (eA opList (aC (eV 2) aN)) (aC (eA opList (aC (eV 3) aN)) (aC (eA opList (aC (eV 4) aN)) aN)))))
  (sSq (sIf (bOr (bNot (bE (eA r__law_whole (aC (eV 5) aN)))) (bE (e2 opNe (eA r_least (aC (eA opList (aC (eV 2) aN)) (aC (e1 opRev (eV 3)) (aC (e1 opRev (eV 4)) aN)))) (eV 5)))) (sRt (eC (.bool false))) sNx)
  (sSq (sAs 6 (e2 opAdd (eC (.int 2)) (e2 opMod (eA r__law_cell_at (aC (eV 0) (aC (eC (.int 43)) aN))) (eC (.int 8)))))
  (sSq (sAs 7 (eA mkL (aC (eLc (zLst (eV 3)) [8] 8 yesB (e2 opMul (eV 6) (eV 8))) (aC (eLc (zLst (eV 4)) [8] 8 yesB (e2 opMul (eV 6) (eV 8))) aN))))
  (sSq (sIf (bE (e2 opNe (eA r_least (aC (eA opList (aC (eV 2) aN)) (aC (eA opList (aC (e2 opIx (eV 7) (eC (.int 0))) aN)) (aC (eA opList (aC (e2 opIx (eV 7) (eC (.int 1))) aN)) aN)))) (e2 opMul (eV 6) (eV 5)))) (sRt (eC (.bool false))) sNx)
  (sRt (e2 opEq (eA r_best (aC (eA opList (aC (eV 2) aN)) (aC (e2 opIx (eV 7) (eC (.int 0))) (aC (e2 opIx (eV 7) (eC (.int 1))) aN)))) (eA r_best (aC (eA opList (aC (eV 2) aN)) (aC (eA opList (aC (eV 3) aN)) (aC (eA opList (aC (eV 4) aN)) aN)))))))))))))))
def R_law_k11 : Nat → List D → Rs D
  | 0 => fun _ => .bad
  | n + 1 => fnOf 9 1 .e (F_law_k11 (R__law_many n) (R__law_keys n) (R_least n) (R__law_cell_at n) (R_best n) (R__law_weights n) (R__law_whole n))
theorem S_law_k11 (n : Nat) (ds : List D) : R_law_k11 (n + 1) ds = fnOf 9 1 .e (F_law_k11 (R__law_many n) (R__law_keys n) (R_least n) (R__law_cell_at n) (R_best n) (R__law_weights n) (R__law_whole n)) ds := rfl
def N_halved : List Str := ["keys", "place"]
def F_halved (r_halved : List D → Rs D) : SEnv → Rs Fl :=
  (sSq (sIf (bE (e2 opEq (eA opLen (aC (eV 0) aN)) (eC (.int 0)))) (sRt (eC .none)) sNx)
  (sSq (sAs 1 (e2 opDiv (eA opLen (aC (eV 0) aN)) (eC (.int 2))))
  (sRt (eA mkT (aC (e2 opIx (eV 0) (eV 1)) (aC (eA r_halved (aC (eSl opSlL (eV 0) oN (oS (eV 1))) aN)) (aC (eA r_halved (aC (eSl opSlL (eV 0) (oS (e2 opAdd (eV 1) (eC (.int 1)))) oN) aN)) aN)))))))
def R_halved : Nat → List D → Rs D
  | 0 => fun _ => .bad
  | n + 1 => fnOf 2 1 .e (F_halved (R_halved n))
theorem S_halved (n : Nat) (ds : List D) : R_halved (n + 1) ds = fnOf 2 1 .e (F_halved (R_halved n)) ds := rfl
def N_even : List Str := ["keys"]
def F_even (r_ask_keys : List D → Rs D) (r_halved : List D → Rs D) : SEnv → Rs Fl :=
  (sSq (sEx (eA r_ask_keys (aC (eV 0) aN)))
  (sRt (eA r_halved (aC (eA opList (aC (eV 0) aN)) aN))))
def R_even : Nat → List D → Rs D
  | 0 => fun _ => .bad
  | n + 1 => fnOf 1 1 .e (F_even (R_ask_keys n) (R_halved n))
theorem S_even (n : Nat) (ds : List D) : R_even (n + 1) ds = fnOf 1 1 .e (F_even (R_ask_keys n) (R_halved n)) ds := rfl
def N_height : List Str := ["tree"]
def F_height (r_height : List D → Rs D) : SEnv → Rs Fl :=
  (sSq (sIf (bE (e2 opIs (eV 0) (eC .none))) (sRt (eC (.int 0))) sNx)
  (sRt (e2 opAdd (eC (.int 1)) (eA opMax (aC (eA r_height (aC (e2 opIx (eV 0) (eC (.int 1))) aN)) (aC (eA r_height (aC (e2 opIx (eV 0) (eC (.int 2))) aN)) aN))))))
def R_height : Nat → List D → Rs D
  | 0 => fun _ => .bad
  | n + 1 => fnOf 1 1 .e (F_height (R_height n))
theorem S_height (n : Nat) (ds : List D) : R_height (n + 1) ds = fnOf 1 1 .e (F_height (R_height n)) ds := rfl
def N_most_steps : List Str := ["keys", "tree"]
def F_most_steps (r_ask_keys : List D → Rs D) (r_ask_tree : List D → Rs D) (r_height : List D → Rs D) : SEnv → Rs Fl :=
  (sSq (sEx (eA r_ask_keys (aC (eV 0) aN)))
  (sSq (sEx (eA r_ask_tree (aC (eV 0) (aC (eV 1) aN))))
  (sRt (eA r_height (aC (eV 1) aN)))))
def R_most_steps : Nat → List D → Rs D
  | 0 => fun _ => .bad
  | n + 1 => fnOf 2 2 .e (F_most_steps (R_ask_keys n) (R_ask_tree n) (R_height n))
theorem S_most_steps (n : Nat) (ds : List D) : R_most_steps (n + 1) ds = fnOf 2 2 .e (F_most_steps (R_ask_keys n) (R_ask_tree n) (R_height n)) ds := rfl
def N__law_height : List Str := ["tree"]
def F__law_height (r__law_height : List D → Rs D) : SEnv → Rs Fl :=
  (sSq (sIf (bE (e2 opIs (eV 0) (eC .none))) (sRt (eC (.int 0))) sNx)
  (sRt (e2 opAdd (eC (.int 1)) (eA opMax (aC (eA r__law_height (aC (e2 opIx (eV 0) (eC (.int 1))) aN)) (aC (eA r__law_height (aC (e2 opIx (eV 0) (eC (.int 2))) aN)) aN))))))
def R__law_height : Nat → List D → Rs D
  | 0 => fun _ => .bad
  | n + 1 => fnOf 1 1 .e (F__law_height (R__law_height n))
theorem S__law_height (n : Nat) (ds : List D) : R__law_height (n + 1) ds = fnOf 1 1 .e (F__law_height (R__law_height n)) ds := rfl
def N_law_k12 : List Str := ["script", "many", "keys", "handed", "tree", "due", "other", "found"]
def F_law_k12 (r__law_many : List D → Rs D) (r__law_keys : List D → Rs D) (r_even : List D → Rs D) (r__law_tree : List D → Rs D) (r_most_steps : List D → Rs D) (r__law_cell_at : List D → Rs D) (r__law_whole : List D → Rs D) (r__law_is_tree : List D → Rs D) (r__law_height : List D → Rs D) : SEnv → Rs Fl :=
  (sSq (sAs 1 (eA r__law_many (aC (eA r__law_cell_at (aC (eV 0) (aC (eC (.int 0)) aN))) (aC (eC (.int 12)) aN))))
  (sSq (sAs 2 (eA r__law_keys (aC (eV 0) (aC (eV 1) aN))))
  (sSq (sAs 3 (eA opList (aC (eV 2) aN)))
  (sSq (sAs 4 (eA r_even (aC (eV 3) aN)))
  (sSq (sIf (bOr (bNot (bE (eA r__law_is_tree (aC (eV 4) (aC (eV 2) aN))))) (bE (e2 opNe (eV 3) (eV 2)))) (sRt (eC (.bool false))) sNx)
  (sSq (sAs 5 (e2 opIx (eA mkL (aC (eC (.int 0)) (aC (eC (.int 1)) (aC (eC (.int 2)) (aC (eC (.int 2)) (aC (eC (.int 3)) (aC (eC (.int 3)) (aC (eC (.int 3)) (aC (eC (.int 3)) (aC (eC (.int 4)) (aC (eC (.int 4)) (aC (eC (.int 4)) (aC (eC (.int 4)) (aC (eC (.int 4)) aN)))))))))))))) (eV 1)))
  (sSq (sIf (bOr (bE (e2 opNe (eA r__law_height (aC (eV 4) aN)) (eV 5))) (bE (e2 opNe (eA r_most_steps (aC (eV 3) (aC (eV 4) aN))) (eV 5)))) (sRt (eC (.bool false))) sNx)
  (sSq (sAs 6 (eA r__law_tree (aC (eV 2) (aC (eA r__law_cell_at (aC (eV 0) (aC (eC (.int 42)) aN))) (aC (eC (.int 0)) (aC (eV 1) aN))))))
  (sSq (sAs 7 (eA r_most_steps (aC (eV 3) (aC (eV 6) aN))))
  (sRt (eAnd (eA r__law_whole (aC (eV 7) aN)) (eAnd (e2 opEq (eV 7) (eA r__law_height (aC (eV 6) aN))) (eAnd (e2 opGe (eV 7) (eV 5)) (e2 opEq (eV 3) (eV 2)))))))))))))))
def R_law_k12 : Nat → List D → Rs D
  | 0 => fun _ => .bad
  | n + 1 => fnOf 8 1 .e (F_law_k12 (R__law_many n) (R__law_keys n) (R_even n) (R__law_tree n) (R_most_steps n) (R__law_cell_at n) (R__law_whole n) (R__law_is_tree n) (R__law_height n))
theorem S_law_k12 (n : Nat) (ds : List D) : R_law_k12 (n + 1) ds = fnOf 8 1 .e (F_law_k12 (R__law_many n) (R__law_keys n) (R_even n) (R__law_tree n) (R_most_steps n) (R__law_cell_at n) (R__law_whole n) (R__law_is_tree n) (R__law_height n)) ds := rfl
def N_lifted_left : List Str := ["tree", "low"]
def F_lifted_left : SEnv → Rs Fl :=
  (sSq (sAs 1 (e2 opIx (eV 0) (eC (.int 1))))
  (sRt (eA mkT (aC (e2 opIx (eV 1) (eC (.int 0))) (aC (e2 opIx (eV 1) (eC (.int 1))) (aC (eA mkT (aC (e2 opIx (eV 0) (eC (.int 0))) (aC (e2 opIx (eV 1) (eC (.int 2))) (aC (e2 opIx (eV 0) (eC (.int 2))) aN)))) aN))))))
def R_lifted_left : Nat → List D → Rs D
  | 0 => fun _ => .bad
  | n + 1 => fnOf 2 1 .e (F_lifted_left)
theorem S_lifted_left (n : Nat) (ds : List D) : R_lifted_left (n + 1) ds = fnOf 2 1 .e (F_lifted_left) ds := rfl
def N_lifted_right : List Str := ["tree", "low"]
def F_lifted_right : SEnv → Rs Fl :=
  (sSq (sAs 1 (e2 opIx (eV 0) (eC (.int 2))))
  (sRt (eA mkT (aC (e2 opIx (eV 1) (eC (.int 0))) (aC (eA mkT (aC (e2 opIx (eV 0) (eC (.int 0))) (aC (e2 opIx (eV 0) (eC (.int 1))) (aC (e2 opIx (eV 1) (eC (.int 1))) aN)))) (aC (e2 opIx (eV 1) (eC (.int 2))) aN))))))
def R_lifted_right : Nat → List D → Rs D
  | 0 => fun _ => .bad
  | n + 1 => fnOf 2 1 .e (F_lifted_right)
theorem S_lifted_right (n : Nat) (ds : List D) : R_lifted_right (n + 1) ds = fnOf 2 1 .e (F_lifted_right) ds := rfl
def N_up : List Str := ["tree", "word"]
def F_up (r_lifted_right : List D → Rs D) (r_up : List D → Rs D) (r_lifted_left : List D → Rs D) : SEnv → Rs Fl :=
  (sSq (sIf (bE (e2 opLt (eV 1) (e2 opIx (eV 0) (eC (.int 0))))) (sSq (sIf (bE (e2 opEq (e2 opIx (e2 opIx (eV 0) (eC (.int 1))) (eC (.int 0))) (eV 1))) (sRt (eA r_lifted_left (aC (eV 0) aN))) sNx)
  (sRt (eA mkT (aC (e2 opIx (eV 0) (eC (.int 0))) (aC (eA r_up (aC (e2 opIx (eV 0) (eC (.int 1))) (aC (eV 1) aN))) (aC (e2 opIx (eV 0) (eC (.int 2))) aN)))))) sNx)
  (sSq (sIf (bE (e2 opEq (e2 opIx (e2 opIx (eV 0) (eC (.int 2))) (eC (.int 0))) (eV 1))) (sRt (eA r_lifted_right (aC (eV 0) aN))) sNx)
  (sRt (eA mkT (aC (e2 opIx (eV 0) (eC (.int 0))) (aC (e2 opIx (eV 0) (eC (.int 1))) (aC (eA r_up (aC (e2 opIx (eV 0) (eC (.int 2))) (aC (eV 1) aN))) aN)))))))
def R_up : Nat → List D → Rs D
  | 0 => fun _ => .bad
  | n + 1 => fnOf 2 2 .e (F_up (R_lifted_right n) (R_up n) (R_lifted_left n))
theorem S_up (n : Nat) (ds : List D) : R_up (n + 1) ds = fnOf 2 2 .e (F_up (R_lifted_right n) (R_up n) (R_lifted_left n)) ds := rfl
def N_turned : List Str := ["keys", "tree", "word"]
def F_turned (r_ask_keys : List D → Rs D) (r_ask_tree : List D → Rs D) (r_up : List D → Rs D) : SEnv → Rs Fl :=
  (sSq (sEx (eA r_ask_keys (aC (eV 0) aN)))
  (sSq (sEx (eA r_ask_tree (aC (eV 0) (aC (eV 1) aN))))
  (sSq (sIf (bE (e2 opNi (eV 2) (eV 0))) (sRaise "NoKey") sNx)
  (sSq (sIf (bE (e2 opEq (e2 opIx (eV 1) (eC (.int 0))) (eV 2))) (sRaise "AtRoot") sNx)
  (sRt (eA r_up (aC (eV 1) (aC (eV 2) aN))))))))
def R_turned : Nat → List D → Rs D
  | 0 => fun _ => .bad
  | n + 1 => fnOf 3 3 .e (F_turned (R_ask_keys n) (R_ask_tree n) (R_up n))
theorem S_turned (n : Nat) (ds : List D) : R_turned (n + 1) ds = fnOf 3 3 .e (F_turned (R_ask_keys n) (R_ask_tree n) (R_up n)) ds := rfl
def N__law_row : List Str := ["tree"]
def F__law_row (r__law_row : List D → Rs D) : SEnv → Rs Fl :=
  (sSq (sIf (bE (e2 opIs (eV 0) (eC .none))) (sRt (eA mkL aN)) sNx)
  (sRt (e2 opCat (e2 opCat (eA r__law_row (aC (e2 opIx (eV 0) (eC (.int 1))) aN)) (eA mkL (aC (e2 opIx (eV 0) (eC (.int 0))) aN))) (eA r__law_row (aC (e2 opIx (eV 0) (eC (.int 2))) aN)))))
def R__law_row : Nat → List D → Rs D
  | 0 => fun _ => .bad
  | n + 1 => fnOf 1 1 .o (F__law_row (R__law_row n))
theorem S__law_row (n : Nat) (ds : List D) : R__law_row (n + 1) ds = fnOf 1 1 .o (F__law_row (R__law_row n)) ds := rfl
def N__law_up : List Str := ["tree", "word", "side", "low"]
def B1__law_up (r__law_up : List D → Rs D) : SEnv → Rs Fl :=
  (sSq (sAs 3 (e2 opIx (eV 0) (eV 2)))
  (sIf (bAnd (bE (e2 opIsN (eV 3) (eC .none))) (bE (e2 opEq (e2 opIx (eV 3) (eC (.int 0))) (eV 1)))) (sSq (sIf (bE (e2 opEq (eV 2) (eC (.int 1)))) (sRt (eA mkT (aC (e2 opIx (eV 3) (eC (.int 0))) (aC (e2 opIx (eV 3) (eC (.int 1))) (aC (eA mkT (aC (e2 opIx (eV 0) (eC (.int 0))) (aC (e2 opIx (eV 3) (eC (.int 2))) (aC (e2 opIx (eV 0) (eC (.int 2))) aN)))) aN))))) sNx)
  (sRt (eA mkT (aC (e2 opIx (eV 3) (eC (.int 0))) (aC (eA mkT (aC (e2 opIx (eV 0) (eC (.int 0))) (aC (e2 opIx (eV 0) (eC (.int 1))) (aC (e2 opIx (eV 3) (eC (.int 1))) aN)))) (aC (e2 opIx (eV 3) (eC (.int 2))) aN)))))) sNx))
theorem x_B1__law_up (r__law_up : List D → Rs D) (env : SEnv) : B1__law_up r__law_up env =
  (sSq (sAs 3 (e2 opIx (eV 0) (eV 2)))
  (sIf (bAnd (bE (e2 opIsN (eV 3) (eC .none))) (bE (e2 opEq (e2 opIx (eV 3) (eC (.int 0))) (eV 1)))) (sSq (sIf (bE (e2 opEq (eV 2) (eC (.int 1)))) (sRt (eA mkT (aC (e2 opIx (eV 3) (eC (.int 0))) (aC (e2 opIx (eV 3) (eC (.int 1))) (aC (eA mkT (aC (e2 opIx (eV 0) (eC (.int 0))) (aC (e2 opIx (eV 3) (eC (.int 2))) (aC (e2 opIx (eV 0) (eC (.int 2))) aN)))) aN))))) sNx)
  (sRt (eA mkT (aC (e2 opIx (eV 3) (eC (.int 0))) (aC (eA mkT (aC (e2 opIx (eV 0) (eC (.int 0))) (aC (e2 opIx (eV 0) (eC (.int 1))) (aC (e2 opIx (eV 3) (eC (.int 1))) aN)))) (aC (e2 opIx (eV 3) (eC (.int 2))) aN)))))) sNx)) env := rfl
def F__law_up (r__law_up : List D → Rs D) : SEnv → Rs Fl :=
  (sSq (sFor (zTup (eA mkT (aC (eC (.int 1)) (aC (eC (.int 2)) aN)))) (gS1 2) (B1__law_up r__law_up))
  (sSq (sIf (bE (e2 opLt (eV 1) (e2 opIx (eV 0) (eC (.int 0))))) (sRt (eA mkT (aC (e2 opIx (eV 0) (eC (.int 0))) (aC (eA r__law_up (aC (e2 opIx (eV 0) (eC (.int 1))) (aC (eV 1) aN))) (aC (e2 opIx (eV 0) (eC (.int 2))) aN))))) sNx)
  (sRt (eA mkT (aC (e2 opIx (eV 0) (eC (.int 0))) (aC (e2 opIx (eV 0) (eC (.int 1))) (aC (eA r__law_up (aC (e2 opIx (eV 0) (eC (.int 2))) (aC (eV 1) aN))) aN)))))))
def R__law_up : Nat → List D → Rs D
  | 0 => fun _ => .bad
  | n + 1 => fnOf 4 2 .e (F__law_up (R__law_up n))
theorem S__law_up (n : Nat) (ds : List D) : R__law_up (n + 1) ds = fnOf 4 2 .e (F__law_up (R__law_up n)) ds := rfl
def N__law_refused_k13 : List Str := ["keys", "tree", "word", "way", "e"]
def F__law_refused_k13 (r_turned : List D → Rs D) : SEnv → Rs Fl :=
  (sSq (sAs 3 (eC (.str "")))
  (sSq (sTry (uC (eA r_turned (aC (eV 0) (aC (eV 1) (aC (eV 2) aN))))) 4 [(["AtRoot"], ["NoKey"], (sAs 3 (e2 opIx (eA mkL (aC (eC (.str "at root")) (aC (eC (.str "odd")) aN))) (eA opInt (aC (eOr (e1 (opIsX [("AtRoot", false), ("NoKey", true)]) (eV 4)) (eNot (e1 (opIsX [("AtRoot", true), ("NoKey", true)]) (eV 4)))) aN))))), (["NoKey"], [], (sAs 3 (e2 opIx (eA mkL (aC (eC (.str "no key")) (aC (eC (.str "odd")) aN))) (eA opInt (aC (eNot (e1 (opIsX [("AtRoot", true), ("NoKey", true)]) (eV 4))) aN)))))])
  (sRt (eV 3))))
def R__law_refused_k13 : Nat → List D → Rs D
  | 0 => fun _ => .bad
  | n + 1 => fnOf 5 3 .e (F__law_refused_k13 (R_turned n))
theorem S__law_refused_k13 (n : Nat) (ds : List D) : R__law_refused_k13 (n + 1) ds = fnOf 5 3 .e (F__law_refused_k13 (R_turned n)) ds := rfl
def N_law_k13 : List Str := ["script", "many", "keys", "tree", "word", "other", "handed", "found"]
def F_law_k13 (r__law_many : List D → Rs D) (r__law_keys : List D → Rs D) (r__law_tree : List D → Rs D) (r_turned : List D → Rs D) (r__law_cell_at : List D → Rs D) (r__law_refused_k13 : List D → Rs D) (r__law_up : List D → Rs D) (r__law_row : List D → Rs D) : SEnv → Rs Fl :=
  (sSq (sAs 1 (eA r__law_many (aC (eA r__law_cell_at (aC (eV 0) (aC (eC (.int 0)) aN))) (aC (eC (.int 12)) aN))))
  (sSq (sAs 2 (eA r__law_keys (aC (eV 0) (aC (eV 1) aN))))
  (sSq (sIf (bE (e2 opEq (eV 1) (eC (.int 0)))) (sRt (e2 opEq (eA r__law_refused_k13 (aC (eA mkL aN) (aC (eC .none) (aC (eC (.str "b")) aN)))) (eC (.str "no key")))) sNx)
  (sSq (sAs 3 (eA r__law_tree (aC (eV 2) (aC (eA r__law_cell_at (aC (eV 0) (aC (eC (.int 42)) aN))) (aC (eC (.int 0)) (aC (eV 1) aN))))))
  (sSq (sAs 4 (e2 opIx (eV 2) (e2 opMod (eA r__law_cell_at (aC (eV 0) (aC (eC (.int 43)) aN))) (eV 1))))
  (sSq (sAs 5 (eSl opSlS (e2 opAdd (e2 opIx (eV 2) (e2 opMod (eA r__law_cell_at (aC (eV 0) (aC (eC (.int 44)) aN))) (eV 1))) (eC (.str "w"))) (oS (e1 opNeg (eC (.int 8)))) oN))
  (sSq (sAs 6 (eA opList (aC (eV 2) aN)))
  (sSq (sIf (bAnd (bE (e2 opNi (eV 5) (eV 2))) (bE (e2 opNe (eA r__law_refused_k13 (aC (eV 6) (aC (eV 3) (aC (eV 5) aN)))) (eC (.str "no key"))))) (sRt (eC (.bool false))) sNx)
  (sSq (sIf (bE (e2 opNe (eA r__law_refused_k13 (aC (eV 6) (aC (eV 3) (aC (e2 opIx (eV 3) (eC (.int 0))) aN)))) (eC (.str "at root")))) (sRt (eC (.bool false))) sNx)
  (sSq (sIf (bE (e2 opEq (eV 4) (e2 opIx (eV 3) (eC (.int 0))))) (sRt (e2 opEq (eV 6) (eV 2))) sNx)
  (sSq (sAs 7 (eA r_turned (aC (eV 6) (aC (eV 3) (aC (eV 4) aN)))))
  (sRt (eAnd (e2 opEq (eV 7) (eA r__law_up (aC (eV 3) (aC (eV 4) aN)))) (eAnd (e2 opEq (eA r__law_row (aC (eV 7) aN)) (eV 2)) (e2 opEq (eV 6) (eV 2))))))))))))))))
def R_law_k13 : Nat → List D → Rs D
  | 0 => fun _ => .bad
  | n + 1 => fnOf 8 1 .e (F_law_k13 (R__law_many n) (R__law_keys n) (R__law_tree n) (R_turned n) (R__law_cell_at n) (R__law_refused_k13 n) (R__law_up n) (R__law_row n))
theorem S_law_k13 (n : Nat) (ds : List D) : R_law_k13 (n + 1) ds = fnOf 8 1 .e (F_law_k13 (R__law_many n) (R__law_keys n) (R__law_tree n) (R_turned n) (R__law_cell_at n) (R__law_refused_k13 n) (R__law_up n) (R__law_row n)) ds := rfl
def N_ways : List Str := ["one", "other", "found"]
def B1_ways (r_up : List D → Rs D) (r_ways : List D → Rs D) : SEnv → Rs Fl :=
  (sSq (sAp 2 (e2 opIx (eV 1) (eC (.int 0))))
  (sAs 0 (eA r_up (aC (eV 0) (aC (e2 opIx (eV 1) (eC (.int 0))) aN)))))
theorem x_B1_ways (r_up : List D → Rs D) (r_ways : List D → Rs D) (env : SEnv) : B1_ways r_up r_ways env =
  (sSq (sAp 2 (e2 opIx (eV 1) (eC (.int 0))))
  (sAs 0 (eA r_up (aC (eV 0) (aC (e2 opIx (eV 1) (eC (.int 0))) aN))))) env := rfl
def F_ways (r_up : List D → Rs D) (r_ways : List D → Rs D) : SEnv → Rs Fl :=
  (sSq (sIf (bE (e2 opIs (eV 0) (eC .none))) (sRt (eA mkL aN)) sNx)
  (sSq (sNw 2 (eA mkL aN))
  (sSq (whileN (bE (e2 opNe (e2 opIx (eV 0) (eC (.int 0))) (e2 opIx (eV 1) (eC (.int 0))))) (B1_ways r_up r_ways) 1000)
  (sRt (e2 opCat (e2 opCat (eV 2) (eA r_ways (aC (e2 opIx (eV 0) (eC (.int 1))) (aC (e2 opIx (eV 1) (eC (.int 1))) aN)))) (eA r_ways (aC (e2 opIx (eV 0) (eC (.int 2))) (aC (e2 opIx (eV 1) (eC (.int 2))) aN))))))))
def R_ways : Nat → List D → Rs D
  | 0 => fun _ => .bad
  | n + 1 => fnOf 3 2 .o (F_ways (R_up n) (R_ways n))
theorem S_ways (n : Nat) (ds : List D) : R_ways (n + 1) ds = fnOf 3 2 .o (F_ways (R_up n) (R_ways n)) ds := rfl
def N_turns : List Str := ["keys", "one", "other"]
def F_turns (r_ask_keys : List D → Rs D) (r_ask_tree : List D → Rs D) (r_ways : List D → Rs D) : SEnv → Rs Fl :=
  (sSq (sEx (eA r_ask_keys (aC (eV 0) aN)))
  (sSq (sEx (eA r_ask_tree (aC (eV 0) (aC (eV 1) aN))))
  (sSq (sEx (eA r_ask_tree (aC (eV 0) (aC (eV 2) aN))))
  (sRt (eA r_ways (aC (eV 1) (aC (eV 2) aN)))))))
def R_turns : Nat → List D → Rs D
  | 0 => fun _ => .bad
  | n + 1 => fnOf 3 3 .o (F_turns (R_ask_keys n) (R_ask_tree n) (R_ways n))
theorem S_turns (n : Nat) (ds : List D) : R_turns (n + 1) ds = fnOf 3 3 .o (F_turns (R_ask_keys n) (R_ask_tree n) (R_ways n)) ds := rfl
def N_law_k14 : List Str := ["script", "many", "keys", "one", "other", "handed", "turn", "found", "here", "word"]
def B1_law_k14 (r__law_many : List D → Rs D) (r__law_keys : List D → Rs D) (r__law_tree : List D → Rs D) (r__law_cell_at : List D → Rs D) (r_turns : List D → Rs D) (r__law_up : List D → Rs D) : SEnv → Rs Fl :=
  (sSq (sNw 7 (eA r_turns (aC (eV 5) (aC (eV 3) (aC (eV 4) aN)))))
  (sSq (sIf (bOr (bNot (bE (e1 (opIsi "list") (eV 7)))) (bOr (bE (e2 opGt (eA opLen (aC (eV 7) aN)) (e2 opDiv (e2 opMul (eV 1) (e2 opSub (eV 1) (eC (.int 1)))) (eC (.int 2))))) (bE (e2 opNe (eV 5) (eV 2))))) (sRt (eC (.bool false))) sNx)
  (sSq (sAs 8 (eV 3))
  (sSq (sFo 7 9 8 (bOr (bNot (bE (e1 (opIsi "str") (eV 9)))) (bOr (bE (e2 opNi (eV 9) (eV 2))) (bE (e2 opEq (eV 9) (e2 opIx (eV 8) (eC (.int 0))))))) (eC (.bool false)) (eA r__law_up (aC (eV 8) (aC (eV 9) aN))))
  (sSq (sIf (bE (e2 opNe (eV 8) (eV 4))) (sRt (eC (.bool false))) sNx)
  (sAp 7 (eC (.str "x"))))))))
theorem x_B1_law_k14 (r__law_many : List D → Rs D) (r__law_keys : List D → Rs D) (r__law_tree : List D → Rs D) (r__law_cell_at : List D → Rs D) (r_turns : List D → Rs D) (r__law_up : List D → Rs D) (env : SEnv) : B1_law_k14 r__law_many r__law_keys r__law_tree r__law_cell_at r_turns r__law_up env =
  (sSq (sNw 7 (eA r_turns (aC (eV 5) (aC (eV 3) (aC (eV 4) aN)))))
  (sSq (sIf (bOr (bNot (bE (e1 (opIsi "list") (eV 7)))) (bOr (bE (e2 opGt (eA opLen (aC (eV 7) aN)) (e2 opDiv (e2 opMul (eV 1) (e2 opSub (eV 1) (eC (.int 1)))) (eC (.int 2))))) (bE (e2 opNe (eV 5) (eV 2))))) (sRt (eC (.bool false))) sNx)
  (sSq (sAs 8 (eV 3))
  (sSq (sFo 7 9 8 (bOr (bNot (bE (e1 (opIsi "str") (eV 9)))) (bOr (bE (e2 opNi (eV 9) (eV 2))) (bE (e2 opEq (eV 9) (e2 opIx (eV 8) (eC (.int 0))))))) (eC (.bool false)) (eA r__law_up (aC (eV 8) (aC (eV 9) aN))))
  (sSq (sIf (bE (e2 opNe (eV 8) (eV 4))) (sRt (eC (.bool false))) sNx)
  (sAp 7 (eC (.str "x")))))))) env := rfl
def F_law_k14 (r__law_many : List D → Rs D) (r__law_keys : List D → Rs D) (r__law_tree : List D → Rs D) (r__law_cell_at : List D → Rs D) (r_turns : List D → Rs D) (r__law_up : List D → Rs D) : SEnv → Rs Fl :=
  (sSq (sAs 1 (eA r__law_many (aC (eA r__law_cell_at (aC (eV 0) (aC (eC (.int 0)) aN))) (aC (eC (.int 12)) aN))))
  (sSq (sAs 2 (eA r__law_keys (aC (eV 0) (aC (eV 1) aN))))
  (sSq (sAs 3 (eA r__law_tree (aC (eV 2) (aC (eA r__law_cell_at (aC (eV 0) (aC (eC (.int 42)) aN))) (aC (eC (.int 0)) (aC (eV 1) aN))))))
  (sSq (sAs 4 (eA r__law_tree (aC (eV 2) (aC (eA r__law_cell_at (aC (eV 0) (aC (eC (.int 43)) aN))) (aC (eC (.int 0)) (aC (eV 1) aN))))))
  (sSq (sIf (bE (e2 opEq (e2 opMod (eA r__law_cell_at (aC (eV 0) (aC (eC (.int 44)) aN))) (eC (.int 6))) (eC (.int 1)))) (sAs 4 (eV 3)) sNx)
  (sSq (sAs 5 (eA opList (aC (eV 2) aN)))
  (sSq (sFor (zR1 (eC (.int 2))) (gS1 6) (B1_law_k14 r__law_many r__law_keys r__law_tree r__law_cell_at r_turns r__law_up))
  (sRt (eC (.bool true))))))))))
def R_law_k14 : Nat → List D → Rs D
  | 0 => fun _ => .bad
  | n + 1 => fnOf 10 1 .e (F_law_k14 (R__law_many n) (R__law_keys n) (R__law_tree n) (R__law_cell_at n) (R_turns n) (R__law_up n))
theorem S_law_k14 (n : Nat) (ds : List D) : R_law_k14 (n + 1) ds = fnOf 10 1 .e (F_law_k14 (R__law_many n) (R__law_keys n) (R__law_tree n) (R__law_cell_at n) (R_turns n) (R__law_up n)) ds := rfl
def N_written : List Str := ["tree"]
def F_written (r_written : List D → Rs D) : SEnv → Rs Fl :=
  (sSq (sIf (bE (e2 opIs (eV 0) (eC .none))) (sRt (eC (.str "-"))) sNx)
  (sRt (e2 opAdd (e2 opAdd (e2 opAdd (e2 opAdd (e2 opAdd (e2 opAdd (eC (.str "(")) (eA r_written (aC (e2 opIx (eV 0) (eC (.int 1))) aN))) (eC (.str " "))) (e2 opIx (eV 0) (eC (.int 0)))) (eC (.str " "))) (eA r_written (aC (e2 opIx (eV 0) (eC (.int 2))) aN))) (eC (.str ")")))))
def R_written : Nat → List D → Rs D
  | 0 => fun _ => .bad
  | n + 1 => fnOf 1 1 .e (F_written (R_written n))
theorem S_written (n : Nat) (ds : List D) : R_written (n + 1) ds = fnOf 1 1 .e (F_written (R_written n)) ds := rfl
def N_shown : List Str := ["keys", "tree"]
def F_shown (r_ask_keys : List D → Rs D) (r_ask_tree : List D → Rs D) (r_written : List D → Rs D) : SEnv → Rs Fl :=
  (sSq (sEx (eA r_ask_keys (aC (eV 0) aN)))
  (sSq (sEx (eA r_ask_tree (aC (eV 0) (aC (eV 1) aN))))
  (sRt (eA r_written (aC (eV 1) aN)))))
def R_shown : Nat → List D → Rs D
  | 0 => fun _ => .bad
  | n + 1 => fnOf 2 2 .e (F_shown (R_ask_keys n) (R_ask_tree n) (R_written n))
theorem S_shown (n : Nat) (ds : List D) : R_shown (n + 1) ds = fnOf 2 2 .e (F_shown (R_ask_keys n) (R_ask_tree n) (R_written n)) ds := rfl
def N_behind : List Str := ["text", "at", "sign"]
def F_behind : SEnv → Rs Fl :=
  (sSq (sIf (bE (e2 opNe (eSl opSlS (eV 0) (oS (eV 1)) (oS (e2 opAdd (eV 1) (eC (.int 1))))) (eV 2))) (sRaise "BadText") sNx)
  (sRt (e2 opAdd (eV 1) (eC (.int 1)))))
def R_behind : Nat → List D → Rs D
  | 0 => fun _ => .bad
  | n + 1 => fnOf 3 3 .e (F_behind)
theorem S_behind (n : Nat) (ds : List D) : R_behind (n + 1) ds = fnOf 3 3 .e (F_behind) ds := rfl
def N_word_end : List Str := ["text", "at"]
def B1_word_end : SEnv → Rs Fl :=
  (sAs 1 (e2 opAdd (eV 1) (eC (.int 1))))
theorem x_B1_word_end (env : SEnv) : B1_word_end env =
  (sAs 1 (e2 opAdd (eV 1) (eC (.int 1)))) env := rfl
def F_word_end : SEnv → Rs Fl :=
  (sSq (whileN (bAnd (bE (e2 opLt (eV 1) (eA opLen (aC (eV 0) aN)))) (bE (e2 opIn (e2 opIx (eV 0) (eV 1)) (eC (.str "abcdefghijklmnopqrstuvwxyz"))))) (B1_word_end) 1000)
  (sRt (eV 1)))
def R_word_end : Nat → List D → Rs D
  | 0 => fun _ => .bad
  | n + 1 => fnOf 2 2 .e (F_word_end)
theorem S_word_end (n : Nat) (ds : List D) : R_word_end (n + 1) ds = fnOf 2 2 .e (F_word_end) ds := rfl
def N_tree_at : List Str := ["text", "at", "left", "start", "end", "right"]
def F_tree_at (r_tree_at : List D → Rs D) (r_behind : List D → Rs D) (r_word_end : List D → Rs D) : SEnv → Rs Fl :=
  (sSq (sIf (bE (e2 opEq (eSl opSlS (eV 0) (oS (eV 1)) (oS (e2 opAdd (eV 1) (eC (.int 1))))) (eC (.str "-")))) (sRt (eA mkT (aC (eC .none) (aC (e2 opAdd (eV 1) (eC (.int 1))) aN)))) sNx)
  (sSq (sAs 2 (eA r_tree_at (aC (eV 0) (aC (eA r_behind (aC (eV 0) (aC (eV 1) (aC (eC (.str "(")) aN)))) aN))))
  (sSq (sAs 3 (eA r_behind (aC (eV 0) (aC (e2 opIx (eV 2) (eC (.int 1))) (aC (eC (.str " ")) aN)))))
  (sSq (sAs 4 (eA r_word_end (aC (eV 0) (aC (eV 3) aN))))
  (sSq (sAs 5 (eA r_tree_at (aC (eV 0) (aC (eA r_behind (aC (eV 0) (aC (eV 4) (aC (eC (.str " ")) aN)))) aN))))
  (sRt (eA mkT (aC (eA mkT (aC (eSl opSlS (eV 0) (oS (eV 3)) (oS (eV 4))) (aC (e2 opIx (eV 2) (eC (.int 0))) (aC (e2 opIx (eV 5) (eC (.int 0))) aN)))) (aC (eA r_behind (aC (eV 0) (aC (e2 opIx (eV 5) (eC (.int 1))) (aC (eC (.str ")")) aN)))) aN)))))))))
def R_tree_at : Nat → List D → Rs D
  | 0 => fun _ => .bad
  | n + 1 => fnOf 6 2 .e (F_tree_at (R_tree_at n) (R_behind n) (R_word_end n))
theorem S_tree_at (n : Nat) (ds : List D) : R_tree_at (n + 1) ds = fnOf 6 2 .e (F_tree_at (R_tree_at n) (R_behind n) (R_word_end n)) ds := rfl
def N_read : List Str := ["text", "found"]
def F_read (r_tree_at : List D → Rs D) (r_are_keys : List D → Rs D) (r_row_of : List D → Rs D) : SEnv → Rs Fl :=
  (sSq (sAs 1 (eA r_tree_at (aC (eV 0) (aC (eC (.int 0)) aN))))
  (sSq (sIf (bOr (bE (e2 opNe (e2 opIx (eV 1) (eC (.int 1))) (eA opLen (aC (eV 0) aN)))) (bNot (bE (eA r_are_keys (aC (eA r_row_of (aC (e2 opIx (eV 1) (eC (.int 0))) aN)) aN))))) (sRaise "BadText") sNx)
  (sRt (e2 opIx (eV 1) (eC (.int 0))))))
def R_read : Nat → List D → Rs D
  | 0 => fun _ => .bad
  | n + 1 => fnOf 2 1 .e (F_read (R_tree_at n) (R_are_keys n) (R_row_of n))
theorem S_read (n : Nat) (ds : List D) : R_read (n + 1) ds = fnOf 2 1 .e (F_read (R_tree_at n) (R_are_keys n) (R_row_of n)) ds := rfl
def N__law_text : List Str := ["tree"]
def F__law_text (r__law_text : List D → Rs D) : SEnv → Rs Fl :=
  (sSq (sIf (bE (e2 opIs (eV 0) (eC .none))) (sRt (eC (.str "-"))) sNx)
  (sRt (e2 opAdd (e2 opAdd (e2 opAdd (e2 opAdd (e2 opAdd (e2 opAdd (eC (.str "(")) (eA r__law_text (aC (e2 opIx (eV 0) (eC (.int 1))) aN))) (eC (.str " "))) (e2 opIx (eV 0) (eC (.int 0)))) (eC (.str " "))) (eA r__law_text (aC (e2 opIx (eV 0) (eC (.int 2))) aN))) (eC (.str ")")))))
def R__law_text : Nat → List D → Rs D
  | 0 => fun _ => .bad
  | n + 1 => fnOf 1 1 .e (F__law_text (R__law_text n))
theorem S__law_text (n : Nat) (ds : List D) : R__law_text (n + 1) ds = fnOf 1 1 .e (F__law_text (R__law_text n)) ds := rfl
def N_law_k15 : List Str := ["script", "many", "keys", "tree", "due", "handed", "text", "found"]
def F_law_k15 (r__law_many : List D → Rs D) (r__law_keys : List D → Rs D) (r__law_tree : List D → Rs D) (r__law_text : List D → Rs D) (r_shown : List D → Rs D) (r_read : List D → Rs D) (r__law_cell_at : List D → Rs D) (r__law_is_tree : List D → Rs D) : SEnv → Rs Fl :=
  (sSq (sAs 1 (eA r__law_many (aC (eA r__law_cell_at (aC (eV 0) (aC (eC (.int 0)) aN))) (aC (eC (.int 12)) aN))))
  (sSq (sAs 2 (eA r__law_keys (aC (eV 0) (aC (eV 1) aN))))
  (sSq (sAs 3 (eA r__law_tree (aC (eV 2) (aC (eA r__law_cell_at (aC (eV 0) (aC (eC (.int 42)) aN))) (aC (eC (.int 0)) (aC (eV 1) aN))))))
  (sSq (sAs 4 (eA r__law_text (aC (eV 3) aN)))
  (sSq (sAs 5 (eA opList (aC (eV 2) aN)))
  (sSq (sAs 6 (eA r_shown (aC (eV 5) (aC (eV 3) aN))))
  (sSq (sIf (bOr (bNot (bE (e1 (opIsi "str") (eV 6)))) (bOr (bE (e2 opNe (eV 6) (eV 4))) (bE (e2 opNe (eV 5) (eV 2))))) (sRt (eC (.bool false))) sNx)
  (sSq (sAs 7 (eA r_read (aC (eV 4) aN)))
  (sRt (eAnd (eA r__law_is_tree (aC (eV 7) (aC (eV 2) aN))) (e2 opEq (eV 7) (eV 3))))))))))))
def R_law_k15 : Nat → List D → Rs D
  | 0 => fun _ => .bad
  | n + 1 => fnOf 8 1 .e (F_law_k15 (R__law_many n) (R__law_keys n) (R__law_tree n) (R__law_text n) (R_shown n) (R_read n) (R__law_cell_at n) (R__law_is_tree n))
theorem S_law_k15 (n : Nat) (ds : List D) : R_law_k15 (n + 1) ds = fnOf 8 1 .e (F_law_k15 (R__law_many n) (R__law_keys n) (R__law_tree n) (R__law_text n) (R_shown n) (R_read n) (R__law_cell_at n) (R__law_is_tree n)) ds := rfl
def N__law_spoiled : List Str := ["script", "text", "keys", "sign", "at", "way", "place", "words", "line", "letter", "k"]
def B1__law_spoiled (r__law_cell_at : List D → Rs D) : SEnv → Rs Fl :=
  (sAs 8 (e2 opAdd (e2 opAdd (e2 opAdd (e2 opAdd (eC (.str "(")) (eV 8)) (eC (.str " "))) (eV 9)) (eC (.str " -)"))))
theorem x_B1__law_spoiled (r__law_cell_at : List D → Rs D) (env : SEnv) : B1__law_spoiled r__law_cell_at env =
  (sAs 8 (e2 opAdd (e2 opAdd (e2 opAdd (e2 opAdd (eC (.str "(")) (eV 8)) (eC (.str " "))) (eV 9)) (eC (.str " -)")))) env := rfl
def F__law_spoiled (r__law_cell_at : List D → Rs D) : SEnv → Rs Fl :=
  (sSq (sAs 3 (e2 opIx (eC (.str "abzA()- \t\n0_.,w")) (e2 opMod (eA r__law_cell_at (aC (eV 0) (aC (eC (.int 43)) aN))) (eC (.int 15)))))
  (sSq (sAs 4 (e2 opMod (eA r__law_cell_at (aC (eV 0) (aC (eC (.int 44)) aN))) (e2 opAdd (eA opLen (aC (eV 1) aN)) (eC (.int 1)))))
  (sSq (sAs 5 (e2 opMod (eA r__law_cell_at (aC (eV 0) (aC (eC (.int 45)) aN))) (eC (.int 7))))
  (sSq (sIf (bE (e2 opLt (eV 5) (eC (.int 3)))) (sRt (e2 opAdd (e2 opAdd (eSl opSlS (eV 1) oN (oS (eV 4))) (e2 opIx (eA mkL (aC (eV 3) (aC (eV 3) (aC (eC (.str "")) aN)))) (eV 5))) (eSl opSlS (eV 1) (oS (e2 opAdd (eV 4) (eA opInt (aC (e2 opGt (eV 5) (eC (.int 0))) aN)))) oN))) sNx)
  (sSq (sIf (bAnd (bE (e2 opEq (eV 5) (eC (.int 3)))) (bE (e2 opGt (eA opLen (aC (eV 2) aN)) (eC (.int 1))))) (sSq (sAs 6 (e2 opAdd (eC (.int 1)) (e2 opMod (eA r__law_cell_at (aC (eV 0) (aC (eC (.int 44)) aN))) (e2 opSub (eA opLen (aC (eV 2) aN)) (eC (.int 1))))))
  (sRt (eRepl (eV 1) (aC (e2 opAdd (e2 opIx (eV 2) (eV 6)) (eC (.str " "))) (aC (e2 opAdd (e2 opIx (eV 2) (e2 opSub (eV 6) (eC (.int 1)))) (eC (.str " "))) aN))))) sNx)
  (sSq (sIf (bAnd (bE (e2 opEq (eV 5) (eC (.int 4)))) (bE (e2 opGt (eA opLen (aC (eV 2) aN)) (eC (.int 0))))) (sRt (eRepl (eV 1) (aC (e2 opAdd (e2 opIx (eV 2) (e1 opNeg (eC (.int 1)))) (eC (.str " "))) (aC (e2 opAdd (eSl opSlS (eC (.str "zzzzzzzzz")) oN (oS (e2 opAdd (eC (.int 8)) (e2 opMod (eV 4) (eC (.int 2)))))) (eC (.str " "))) aN)))) sNx)
  (sSq (sIf (bE (e2 opEq (eV 5) (eC (.int 5)))) (sSq (sAs 7 (eLc (zR1 (e2 opAdd (eC (.int 12)) (e2 opMod (eV 4) (eC (.int 3))))) [10] 10 yesB (e2 opIx (eC (.str "abcdefghijklmno")) (eV 10))))
  (sRt (e2 opAdd (e2 opAdd (e2 opRep (eC (.str "(- ")) (eA opLen (aC (eV 7) aN))) (eJoin (eC (.str " -)(- ")) (aC (eV 7) aN))) (eC (.str " -)"))))) sNx)
  (sSq (sAs 8 (eC (.str "-")))
  (sSq (sFor (zStr (eSl opSlS (eC (.str "abcdefghijklmno")) oN (oS (e2 opAdd (eC (.int 11)) (e2 opMod (eV 4) (eC (.int 4))))))) (gS1 9) (B1__law_spoiled r__law_cell_at))
  (sRt (eV 8)))))))))))
def R__law_spoiled : Nat → List D → Rs D
  | 0 => fun _ => .bad
  | n + 1 => fnOf 11 3 .e (F__law_spoiled (R__law_cell_at n))
theorem S__law_spoiled (n : Nat) (ds : List D) : R__law_spoiled (n + 1) ds = fnOf 11 3 .e (F__law_spoiled (R__law_cell_at n)) ds := rfl
def N__law_refused_k16 : List Str := ["text", "bad", "e"]
def F__law_refused_k16 (r_read : List D → Rs D) : SEnv → Rs Fl :=
  (sSq (sAs 1 (eC (.bool false)))
  (sSq (sTry (uC (eA r_read (aC (eV 0) aN))) 2 [(["BadText"], [], (sSq (sAs 1 (eAnd (e1 (opIsX [("BadText", true)]) (eV 2)) (e1 (opIsX [("BadText", true)]) (eV 2))))
  (sAs 1 (eAnd (eV 1) (eAnd (eNot (e1 (opIsX [("BadText", false)]) (eV 2))) (eNot (e1 (opIsX [("BadText", false)]) (eV 2))))))))])
  (sRt (eV 1))))
def R__law_refused_k16 : Nat → List D → Rs D
  | 0 => fun _ => .bad
  | n + 1 => fnOf 3 1 .e (F__law_refused_k16 (R_read n))
theorem S__law_refused_k16 (n : Nat) (ds : List D) : R__law_refused_k16 (n + 1) ds = fnOf 3 1 .e (F__law_refused_k16 (R_read n)) ds := rfl
def N__law_bad_keys : List Str := ["keys", "cell", "place", "way", "odd", "k"]
def F__law_bad_keys : SEnv → Rs Fl :=
  (sSq (sAs 2 (e2 opMod (e2 opDiv (eV 1) (eC (.int 8))) (eA opLen (aC (eV 0) aN))))
  (sSq (sAs 3 (e2 opMod (eV 1) (eC (.int 8))))
  (sSq (sIf (bAnd (bE (e2 opEq (eV 3) (eC (.int 0)))) (bE (e2 opGt (eA opLen (aC (eV 0) aN)) (eC (.int 1))))) (sRt (e1 opRev (eV 0))) sNx)
  (sSq (sIf (bE (e2 opEq (eV 3) (eC (.int 1)))) (sRt (e2 opCat (eSl opSlL (eV 0) oN (oS (e2 opAdd (eV 2) (eC (.int 1))))) (eSl opSlL (eV 0) (oS (eV 2)) oN))) sNx)
  (sSq (sIf (bAnd (bE (e2 opEq (eV 3) (eC (.int 3)))) (bE (e2 opGt (eV 2) (eC (.int 0))))) (sRt (e2 opCat (e2 opCat (eSl opSlL (eV 0) oN (oS (e2 opSub (eV 2) (eC (.int 1))))) (eA mkL (aC (e2 opIx (eV 0) (eV 2)) (aC (e2 opIx (eV 0) (e2 opSub (eV 2) (eC (.int 1)))) aN)))) (eSl opSlL (eV 0) (oS (e2 opAdd (eV 2) (eC (.int 1)))) oN))) sNx)
  (sSq (sIf (bE (e2 opEq (eV 3) (eC (.int 2)))) (sRt (e2 opCat (eV 0) (eLc (zR1 (e2 opAdd (e2 opSub (eC (.int 13)) (eA opLen (aC (eV 0) aN))) (e2 opMod (e2 opDiv (eV 1) (eC (.int 8))) (eC (.int 8))))) [5] 5 yesB (e2 opAdd (eC (.str "y")) (e2 opIx (eC (.str "abcdefghijklmnopqrst")) (eV 5)))))) sNx)
  (sSq (sAs 4 (e2 opIx (eA mkL (aC (eC (.str "")) (aC (eC (.str "zzzzzzzzz")) (aC (eC (.str "Zb")) (aC (eC (.str "z b")) (aC (eC (.str "z1")) (aC (eC (.str "z-")) (aC (eC (.str "z\t")) aN)))))))) (e2 opMod (e2 opDiv (eV 1) (eC (.int 8))) (eC (.int 7)))))
  (sRt (e2 opCat (e2 opCat (eSl opSlL (eV 0) oN (oS (eV 2))) (eA mkL (aC (eV 4) aN))) (eSl opSlL (eV 0) (oS (e2 opAdd (eV 2) (eC (.int 1)))) oN))))))))))
def R__law_bad_keys : Nat → List D → Rs D
  | 0 => fun _ => .bad
  | n + 1 => fnOf 6 2 .e (F__law_bad_keys)
theorem S__law_bad_keys (n : Nat) (ds : List D) : R__law_bad_keys (n + 1) ds = fnOf 6 2 .e (F__law_bad_keys) ds := rfl
def N__law_bad_weights : List Str := ["rows", "cell", "place", "other", "far"]
def F__law_bad_weights : SEnv → Rs Fl :=
  (sSq (sAs 2 (e2 opMod (e2 opDiv (eV 1) (eC (.int 8))) (eA opLen (aC (e2 opIx (eV 0) (e2 opMod (eV 1) (eC (.int 2)))) aN))))
  (sSq (sNn 3 (eA mkL (aC (eA opList (aC (e2 opIx (eV 0) (eC (.int 0))) aN)) (aC (eA opList (aC (e2 opIx (eV 0) (eC (.int 1))) aN)) aN))))
  (sSq (sIf (bE (e2 opEq (e2 opMod (e2 opDiv (eV 1) (eC (.int 8))) (eC (.int 3))) (eC (.int 1)))) (sSq (sIf (bE (e2 opEq (e2 opMod (eV 1) (eC (.int 2))) (eC (.int 0)))) (sRt (eA mkL (aC (e2 opCat (e2 opIx (eV 3) (eC (.int 0))) (eA mkL (aC (eC (.int 1)) aN))) (aC (e2 opCat (e2 opIx (eV 3) (eC (.int 1))) (eA mkL (aC (eC (.int 1)) aN))) aN)))) sNx)
  (sRt (eA mkL (aC (eSl opSlL (e2 opIx (eV 3) (eC (.int 0))) (oS (eC (.int 1))) oN) (aC (eSl opSlL (e2 opIx (eV 3) (eC (.int 1))) (oS (eC (.int 1))) oN) aN))))) sNx)
  (sSq (sIf (bE (e2 opEq (e2 opMod (e2 opDiv (eV 1) (eC (.int 2))) (eC (.int 4))) (eC (.int 0)))) (sNap 3 (e2 opMod (eV 1) (eC (.int 2))) (eC (.int 1))) (sIf (bE (e2 opEq (e2 opMod (e2 opDiv (eV 1) (eC (.int 2))) (eC (.int 4))) (eC (.int 1)))) (sNpop 3 (e2 opMod (eV 1) (eC (.int 2)))) (sSq (sAs 4 (e2 opMod (e2 opDiv (eV 1) (eC (.int 100))) (e2 opPow (eC (.int 10)) (eC (.int 15)))))
  (sNit 3 (e2 opMod (eV 1) (eC (.int 2))) (eV 2) (e2 opIx (eA mkL (aC (e2 opSub (e1 opNeg (eC (.int 1))) (eV 4)) (aC (e2 opAdd (eC (.int 1000001)) (eV 4)) aN))) (e2 opMod (e2 opDiv (eV 1) (eC (.int 2))) (eC (.int 2))))))))
  (sRt (eV 3))))))
def R__law_bad_weights : Nat → List D → Rs D
  | 0 => fun _ => .bad
  | n + 1 => fnOf 5 2 .e (F__law_bad_weights)
theorem S__law_bad_weights (n : Nat) (ds : List D) : R__law_bad_weights (n + 1) ds = fnOf 5 2 .e (F__law_bad_weights) ds := rfl
def N__law_bad_tree : List Str := ["tree", "cell", "keys", "place", "other"]
def F__law_bad_tree (r__law_mirrored : List D → Rs D) (r__law_tree : List D → Rs D) : SEnv → Rs Fl :=
  (sSq (sIf (bAnd (bE (e2 opEq (e2 opMod (e2 opDiv (eV 1) (eC (.int 3))) (eC (.int 3))) (eC (.int 1)))) (bE (e2 opGt (eA opLen (aC (eV 2) aN)) (eC (.int 1))))) (sRt (eA r__law_mirrored (aC (eV 0) aN))) sNx)
  (sSq (sIf (bAnd (bE (e2 opEq (e2 opMod (e2 opDiv (eV 1) (eC (.int 3))) (eC (.int 3))) (eC (.int 2)))) (bE (e2 opGt (eA opLen (aC (eV 2) aN)) (eC (.int 1))))) (sSq (sAs 3 (e2 opMod (e2 opDiv (eV 1) (eC (.int 9))) (e2 opSub (eA opLen (aC (eV 2) aN)) (eC (.int 1)))))
  (sSq (sAs 4 (e2 opCat (e2 opCat (eSl opSlL (eV 2) oN (oS (eV 3))) (eA mkL (aC (e2 opIx (eV 2) (e2 opAdd (eV 3) (eC (.int 1)))) (aC (e2 opIx (eV 2) (eV 3)) aN)))) (eSl opSlL (eV 2) (oS (e2 opAdd (eV 3) (eC (.int 2)))) oN)))
  (sRt (eA r__law_tree (aC (eV 4) (aC (eV 1) (aC (eC (.int 0)) (aC (eA opLen (aC (eV 4) aN)) aN)))))))) sNx)
  (sSq (sIf (bE (e2 opEq (e2 opMod (eV 1) (eC (.int 3))) (eC (.int 0)))) (sRt (eA mkT (aC (eC (.str "a")) (aC (eC .none) (aC (eV 0) aN))))) sNx)
  (sSq (sIf (bE (e2 opEq (e2 opMod (eV 1) (eC (.int 3))) (eC (.int 1)))) (sRt (e2 opIx (eV 0) (e2 opAdd (eC (.int 1)) (e2 opMod (e2 opDiv (eV 1) (eC (.int 9))) (eC (.int 2)))))) sNx)
  (sRt (eA mkT (aC (eC (.str "aa")) (aC (e2 opIx (eV 0) (eC (.int 1))) (aC (e2 opIx (eV 0) (eC (.int 2))) aN)))))))))
def R__law_bad_tree : Nat → List D → Rs D
  | 0 => fun _ => .bad
  | n + 1 => fnOf 5 3 .e (F__law_bad_tree (R__law_mirrored n) (R__law_tree n))
theorem S__law_bad_tree (n : Nat) (ds : List D) : R__law_bad_tree (n + 1) ds = fnOf 5 3 .e (F__law_bad_tree (R__law_mirrored n) (R__law_tree n)) ds := rfl
def N__law_first : List Str := ["which", "keys", "rows", "tree"]
def F__law_first (r_worths : List D → Rs D) (r_roots : List D → Rs D) (r_least : List D → Rs D) (r_best : List D → Rs D) (r_cost : List D → Rs D) (r_even : List D → Rs D) : SEnv → Rs Fl :=
  (sSq (sIf (bE (e2 opEq (eV 0) (eC (.int 0)))) (sEx (eN (eA r_worths (aC (eV 1) (aC (e2 opIx (eV 2) (eC (.int 0))) (aC (e2 opIx (eV 2) (eC (.int 1))) aN)))))) sNx)
  (sSq (sIf (bE (e2 opEq (eV 0) (eC (.int 1)))) (sEx (eN (eA r_roots (aC (eV 1) (aC (e2 opIx (eV 2) (eC (.int 0))) (aC (e2 opIx (eV 2) (eC (.int 1))) aN)))))) sNx)
  (sSq (sIf (bE (e2 opEq (eV 0) (eC (.int 2)))) (sEx (eA r_least (aC (eV 1) (aC (e2 opIx (eV 2) (eC (.int 0))) (aC (e2 opIx (eV 2) (eC (.int 1))) aN))))) sNx)
  (sSq (sIf (bE (e2 opEq (eV 0) (eC (.int 3)))) (sEx (eA r_best (aC (eV 1) (aC (e2 opIx (eV 2) (eC (.int 0))) (aC (e2 opIx (eV 2) (eC (.int 1))) aN))))) sNx)
  (sSq (sIf (bE (e2 opEq (eV 0) (eC (.int 4)))) (sEx (eA r_cost (aC (eV 1) (aC (e2 opIx (eV 2) (eC (.int 0))) (aC (e2 opIx (eV 2) (eC (.int 1))) (aC (eV 3) aN)))))) sNx)
  (sIf (bE (e2 opEq (eV 0) (eC (.int 5)))) (sEx (eA r_even (aC (eV 1) aN))) sNx))))))
def R__law_first : Nat → List D → Rs D
  | 0 => fun _ => .bad
  | n + 1 => fnOf 4 4 .e (F__law_first (R_worths n) (R_roots n) (R_least n) (R_best n) (R_cost n) (R_even n))
theorem S__law_first (n : Nat) (ds : List D) : R__law_first (n + 1) ds = fnOf 4 4 .e (F__law_first (R_worths n) (R_roots n) (R_least n) (R_best n) (R_cost n) (R_even n)) ds := rfl
def N__law_second : List Str := ["which", "keys", "tree", "good"]
def F__law_second (r_seek : List D → Rs D) (r_most_steps : List D → Rs D) (r_shown : List D → Rs D) (r_turned : List D → Rs D) (r_turns : List D → Rs D) : SEnv → Rs Fl :=
  (sSq (sIf (bE (e2 opEq (eV 0) (eC (.int 6)))) (sEx (eA r_seek (aC (eV 1) (aC (eV 2) (aC (eC (.str "b")) aN))))) sNx)
  (sSq (sIf (bE (e2 opEq (eV 0) (eC (.int 7)))) (sEx (eA r_most_steps (aC (eV 1) (aC (eV 2) aN)))) sNx)
  (sSq (sIf (bE (e2 opEq (eV 0) (eC (.int 8)))) (sEx (eA r_shown (aC (eV 1) (aC (eV 2) aN)))) sNx)
  (sSq (sIf (bE (e2 opEq (eV 0) (eC (.int 9)))) (sEx (eA r_turned (aC (eV 1) (aC (eV 2) (aC (eC (.str "qq")) aN))))) sNx)
  (sSq (sIf (bE (e2 opEq (eV 0) (eC (.int 10)))) (sEx (eA r_turns (aC (eV 1) (aC (eV 2) (aC (eV 3) aN))))) sNx)
  (sIf (bE (e2 opEq (eV 0) (eC (.int 11)))) (sEx (eA r_turns (aC (eV 1) (aC (eV 3) (aC (eV 2) aN))))) sNx))))))
def R__law_second : Nat → List D → Rs D
  | 0 => fun _ => .bad
  | n + 1 => fnOf 4 4 .e (F__law_second (R_seek n) (R_most_steps n) (R_shown n) (R_turned n) (R_turns n))
theorem S__law_second (n : Nat) (ds : List D) : R__law_second (n + 1) ds = fnOf 4 4 .e (F__law_second (R_seek n) (R_most_steps n) (R_shown n) (R_turned n) (R_turns n)) ds := rfl
def N__law_word : List Str := ["which", "keys", "rows", "tree", "good", "word", "e", "kinds"]
def F__law_word (r__law_first : List D → Rs D) (r__law_second : List D → Rs D) : SEnv → Rs Fl :=
  (sSq (sAs 5 (eC (.str "done")))
  (sSq (sTry (uS (uC (eA r__law_first (aC (eV 0) (aC (eV 1) (aC (eV 2) (aC (eV 3) aN)))))) (uC (eA r__law_second (aC (eV 0) (aC (eV 1) (aC (eV 3) (aC (eV 4) aN))))))) 6 [(["NoKeys", "NoWeights", "NoTree", "NoKey"], [], (sSq (sAs 7 (eA mkL (aC (e1 (opIsX [("NoKeys", true), ("NoWeights", false), ("NoTree", false), ("NoKey", false)]) (eV 6)) (aC (e1 (opIsX [("NoKeys", false), ("NoWeights", true), ("NoTree", false), ("NoKey", false)]) (eV 6)) (aC (e1 (opIsX [("NoKeys", false), ("NoWeights", false), ("NoTree", true), ("NoKey", false)]) (eV 6)) aN)))))
  (sSq (sAs 5 (eC (.str "other")))
  (sIf (bAnd (bE (e2 opEq (eCount (eV 7) (aC (eC (.bool true)) aN)) (eC (.int 1)))) (bE (e1 (opIsX [("NoKeys", true), ("NoWeights", true), ("NoTree", true), ("NoKey", true)]) (eV 6)))) (sAs 5 (e2 opIx (eA mkL (aC (eC (.str "keys")) (aC (eC (.str "weights")) (aC (eC (.str "tree")) aN)))) (eIndex (eV 7) (aC (eC (.bool true)) aN)))) sNx))))])
  (sRt (eV 5))))
def R__law_word : Nat → List D → Rs D
  | 0 => fun _ => .bad
  | n + 1 => fnOf 8 5 .e (F__law_word (R__law_first n) (R__law_second n))
theorem S__law_word (n : Nat) (ds : List D) : R__law_word (n + 1) ds = fnOf 8 5 .e (F__law_word (R__law_first n) (R__law_second n)) ds := rfl
def N_law_k17 : List Str := ["script", "many", "keys", "rows", "good", "tree", "due", "which", "wanted"]
def B1_law_k17 (r__law_keys : List D → Rs D) (r__law_tree : List D → Rs D) (r__law_many : List D → Rs D) (r__law_weights : List D → Rs D) (r__law_cell_at : List D → Rs D) (r__law_bad_tree : List D → Rs D) (r__law_bad_weights : List D → Rs D) (r__law_bad_keys : List D → Rs D) (r__law_word : List D → Rs D) : SEnv → Rs Fl :=
  (sSq (sAsB 8 (e2 opIx (eV 6) (eC (.int 0))))
  (sSq (sIf (bAnd (bE (e2 opEq (eV 8) (eC (.str "done")))) (bE (e2 opLt (eV 7) (eC (.int 5))))) (sAsB 8 (e2 opIx (eV 6) (eC (.int 1)))) sNx)
  (sSq (sIf (bAnd (bE (e2 opEq (eV 8) (eC (.str "done")))) (bE (e2 opIn (eV 7) (eA mkT (aC (eC (.int 4)) (aC (eC (.int 6)) (aC (eC (.int 7)) (aC (eC (.int 8)) (aC (eC (.int 9)) (aC (eC (.int 10)) (aC (eC (.int 11)) aN))))))))))) (sAsB 8 (e2 opIx (eV 6) (eC (.int 2)))) sNx)
  (sSq (sIf (bAnd (bE (e2 opEq (eV 8) (eC (.str "done")))) (bE (e2 opEq (eV 7) (eC (.int 9))))) (sAs 8 (eC (.str "other"))) sNx)
  (sIf (bE (e2 opNe (eA r__law_word (aC (eV 7) (aC (eA opList (aC (eV 2) aN)) (aC (eA mkL (aC (eA opList (aC (e2 opIx (eV 3) (eC (.int 0))) aN)) (aC (eA opList (aC (e2 opIx (eV 3) (eC (.int 1))) aN)) aN))) (aC (eV 5) (aC (eV 4) aN)))))) (eV 8))) (sRt (eC (.bool false))) sNx)))))
theorem x_B1_law_k17 (r__law_keys : List D → Rs D) (r__law_tree : List D → Rs D) (r__law_many : List D → Rs D) (r__law_weights : List D → Rs D) (r__law_cell_at : List D → Rs D) (r__law_bad_tree : List D → Rs D) (r__law_bad_weights : List D → Rs D) (r__law_bad_keys : List D → Rs D) (r__law_word : List D → Rs D) (env : SEnv) : B1_law_k17 r__law_keys r__law_tree r__law_many r__law_weights r__law_cell_at r__law_bad_tree r__law_bad_weights r__law_bad_keys r__law_word env =
  (sSq (sAsB 8 (e2 opIx (eV 6) (eC (.int 0))))
  (sSq (sIf (bAnd (bE (e2 opEq (eV 8) (eC (.str "done")))) (bE (e2 opLt (eV 7) (eC (.int 5))))) (sAsB 8 (e2 opIx (eV 6) (eC (.int 1)))) sNx)
  (sSq (sIf (bAnd (bE (e2 opEq (eV 8) (eC (.str "done")))) (bE (e2 opIn (eV 7) (eA mkT (aC (eC (.int 4)) (aC (eC (.int 6)) (aC (eC (.int 7)) (aC (eC (.int 8)) (aC (eC (.int 9)) (aC (eC (.int 10)) (aC (eC (.int 11)) aN))))))))))) (sAsB 8 (e2 opIx (eV 6) (eC (.int 2)))) sNx)
  (sSq (sIf (bAnd (bE (e2 opEq (eV 8) (eC (.str "done")))) (bE (e2 opEq (eV 7) (eC (.int 9))))) (sAs 8 (eC (.str "other"))) sNx)
  (sIf (bE (e2 opNe (eA r__law_word (aC (eV 7) (aC (eA opList (aC (eV 2) aN)) (aC (eA mkL (aC (eA opList (aC (e2 opIx (eV 3) (eC (.int 0))) aN)) (aC (eA opList (aC (e2 opIx (eV 3) (eC (.int 1))) aN)) aN))) (aC (eV 5) (aC (eV 4) aN)))))) (eV 8))) (sRt (eC (.bool false))) sNx))))) env := rfl
def F_law_k17 (r__law_keys : List D → Rs D) (r__law_tree : List D → Rs D) (r__law_many : List D → Rs D) (r__law_weights : List D → Rs D) (r__law_cell_at : List D → Rs D) (r__law_bad_tree : List D → Rs D) (r__law_bad_weights : List D → Rs D) (r__law_bad_keys : List D → Rs D) (r__law_word : List D → Rs D) : SEnv → Rs Fl :=
  (sSq (sAs 1 (eA opMax (aC (eC (.int 1)) (aC (eA r__law_many (aC (eA r__law_cell_at (aC (eV 0) (aC (eC (.int 0)) aN))) (aC (eC (.int 12)) aN))) aN))))
  (sSq (sAs 2 (eA r__law_keys (aC (eV 0) (aC (eV 1) aN))))
  (sSq (sAs 3 (eA mkL (aC (eA r__law_weights (aC (eV 0) (aC (eC (.int 2)) (aC (eV 1) aN)))) (aC (eA r__law_weights (aC (eV 0) (aC (eC (.int 15)) (aC (e2 opAdd (eV 1) (eC (.int 1))) aN)))) aN))))
  (sSq (sAs 4 (eA r__law_tree (aC (eV 2) (aC (eA r__law_cell_at (aC (eV 0) (aC (eC (.int 42)) aN))) (aC (eC (.int 0)) (aC (eV 1) aN))))))
  (sSq (sAs 5 (eV 4))
  (sSq (sNw 6 (eA mkL (aC (eC (.str "done")) (aC (eC (.str "done")) (aC (eC (.str "done")) aN)))))
  (sSq (sIf (bE (e2 opEq (e2 opMod (eA r__law_cell_at (aC (eV 0) (aC (eC (.int 43)) aN))) (eC (.int 2))) (eC (.int 1)))) (sSq (sAs 5 (eA r__law_bad_tree (aC (eV 4) (aC (e2 opDiv (eA r__law_cell_at (aC (eV 0) (aC (eC (.int 43)) aN))) (eC (.int 2))) (aC (eV 2) aN)))))
  (sIt 6 (eC (.int 2)) (eC (.str "tree")))) sNx)
  (sSq (sIf (bE (e2 opEq (e2 opMod (eA r__law_cell_at (aC (eV 0) (aC (eC (.int 44)) aN))) (eC (.int 3))) (eC (.int 1)))) (sSq (sAs 3 (eA r__law_bad_weights (aC (eV 3) (aC (e2 opDiv (eA r__law_cell_at (aC (eV 0) (aC (eC (.int 44)) aN))) (eC (.int 3))) aN))))
  (sIt 6 (eC (.int 1)) (eC (.str "weights")))) sNx)
  (sSq (sIf (bE (e2 opEq (e2 opMod (eA r__law_cell_at (aC (eV 0) (aC (eC (.int 45)) aN))) (eC (.int 3))) (eC (.int 1)))) (sSq (sAs 2 (eA r__law_bad_keys (aC (eV 2) (aC (e2 opDiv (eA r__law_cell_at (aC (eV 0) (aC (eC (.int 45)) aN))) (eC (.int 3))) aN))))
  (sIt 6 (eC (.int 0)) (eC (.str "keys")))) sNx)
  (sSq (sFor (zR1 (eC (.int 12))) (gS1 7) (B1_law_k17 r__law_keys r__law_tree r__law_many r__law_weights r__law_cell_at r__law_bad_tree r__law_bad_weights r__law_bad_keys r__law_word))
  (sRt (eC (.bool true)))))))))))))
def R_law_k17 : Nat → List D → Rs D
  | 0 => fun _ => .bad
  | n + 1 => fnOf 9 1 .e (F_law_k17 (R__law_keys n) (R__law_tree n) (R__law_many n) (R__law_weights n) (R__law_cell_at n) (R__law_bad_tree n) (R__law_bad_weights n) (R__law_bad_keys n) (R__law_word n))
theorem S_law_k17 (n : Nat) (ds : List D) : R_law_k17 (n + 1) ds = fnOf 9 1 .e (F_law_k17 (R__law_keys n) (R__law_tree n) (R__law_many n) (R__law_weights n) (R__law_cell_at n) (R__law_bad_tree n) (R__law_bad_weights n) (R__law_bad_keys n) (R__law_word n)) ds := rfl
def N__law_refuses : List Str := ["which", "cell", "tree"]
def F__law_refuses (r_even : List D → Rs D) (r_best : List D → Rs D) (r_shown : List D → Rs D) (r_turned : List D → Rs D) (r_read : List D → Rs D) : SEnv → Rs Fl :=
  (sSq (sAs 2 (eA mkT (aC (eC (.str "b")) (aC (eC .none) (aC (eC .none) aN)))))
  (sSq (sIf (bE (e2 opEq (eV 0) (eC (.int 0)))) (sEx (eA r_even (aC (eA mkL (aC (eC (.str "b")) (aC (eSl opSlS (eC (.str "abcdefgh")) oN (oS (e2 opAdd (eC (.int 1)) (e2 opMod (eV 1) (eC (.int 8)))))) aN))) aN))) sNx)
  (sSq (sIf (bE (e2 opEq (eV 0) (eC (.int 1)))) (sEx (eA r_best (aC (eA mkL (aC (eC (.str "b")) aN)) (aC (eA mkL (aC (e2 opMod (eV 1) (eC (.int 1000))) aN)) (aC (eA mkL (aC (e2 opMod (eV 1) (eC (.int 1000))) (aC (e2 opAdd (eC (.int 1000001)) (eV 1)) aN))) aN))))) sNx)
  (sSq (sIf (bE (e2 opEq (eV 0) (eC (.int 2)))) (sEx (eA r_shown (aC (eA mkL (aC (eC (.str "b")) (aC (e2 opAdd (eC (.str "c")) (e2 opRep (eC (.str "x")) (e2 opMod (eV 1) (eC (.int 7))))) aN))) (aC (eV 2) aN)))) sNx)
  (sSq (sIf (bE (e2 opEq (eV 0) (eC (.int 3)))) (sEx (eA r_turned (aC (eA mkL (aC (eC (.str "b")) aN)) (aC (eV 2) (aC (e2 opRep (eC (.str "c")) (e2 opAdd (eC (.int 1)) (e2 opMod (eV 1) (eC (.int 8))))) aN))))) sNx)
  (sSq (sIf (bE (e2 opEq (eV 0) (eC (.int 4)))) (sEx (eA r_turned (aC (eA mkL (aC (eC (.str "b")) aN)) (aC (eV 2) (aC (eC (.str "b")) aN))))) sNx)
  (sIf (bE (e2 opEq (eV 0) (eC (.int 5)))) (sEx (eA r_read (aC (e2 opAdd (e2 opAdd (eC (.str "(- ")) (e2 opRep (eC (.str "b")) (e2 opAdd (eC (.int 9)) (e2 opMod (eV 1) (eC (.int 9)))))) (eC (.str " -)"))) aN))) sNx)))))))
def R__law_refuses : Nat → List D → Rs D
  | 0 => fun _ => .bad
  | n + 1 => fnOf 3 2 .e (F__law_refuses (R_even n) (R_best n) (R_shown n) (R_turned n) (R_read n))
theorem S__law_refuses (n : Nat) (ds : List D) : R__law_refuses (n + 1) ds = fnOf 3 2 .e (F__law_refuses (R_even n) (R_best n) (R_shown n) (R_turned n) (R_read n)) ds := rfl
def N__law_classes : List Str := ["e", "found"]
def F__law_classes : SEnv → Rs Fl :=
  (sSq (sAs 1 (eA mkL (aC (e1 (opIsX [("NoKeys", true), ("NoWeights", false), ("NoTree", false), ("NoKey", false), ("AtRoot", false), ("BadText", false)]) (eV 0)) (aC (e1 (opIsX [("NoKeys", false), ("NoWeights", true), ("NoTree", false), ("NoKey", false), ("AtRoot", false), ("BadText", false)]) (eV 0)) (aC (e1 (opIsX [("NoKeys", false), ("NoWeights", false), ("NoTree", true), ("NoKey", false), ("AtRoot", false), ("BadText", false)]) (eV 0)) (aC (e1 (opIsX [("NoKeys", false), ("NoWeights", false), ("NoTree", false), ("NoKey", true), ("AtRoot", false), ("BadText", false)]) (eV 0)) aN))))))
  (sRt (e2 opCat (eV 1) (eA mkL (aC (e1 (opIsX [("NoKeys", false), ("NoWeights", false), ("NoTree", false), ("NoKey", false), ("AtRoot", true), ("BadText", false)]) (eV 0)) (aC (e1 (opIsX [("NoKeys", false), ("NoWeights", false), ("NoTree", false), ("NoKey", false), ("AtRoot", false), ("BadText", true)]) (eV 0)) aN))))))
def R__law_classes : Nat → List D → Rs D
  | 0 => fun _ => .bad
  | n + 1 => fnOf 2 1 .o (F__law_classes)
theorem S__law_classes (n : Nat) (ds : List D) : R__law_classes (n + 1) ds = fnOf 2 1 .o (F__law_classes) ds := rfl
def N__law_caught : List Str := ["which", "cell", "found", "value", "e", "k"]
def F__law_caught (r__law_refuses : List D → Rs D) (r__law_classes : List D → Rs D) : SEnv → Rs Fl :=
  (sSq (sAs 2 (eA mkL aN))
  (sSq (sAs 3 (eC (.bool false)))
  (sSq (sTry (uC (eA r__law_refuses (aC (eV 0) (aC (eV 1) aN)))) 4 [(["NoKeys", "NoWeights", "NoTree", "NoKey", "AtRoot", "BadText"], [], (sSq (sAs 2 (eA r__law_classes (aC (eV 4) aN)))
  (sAs 3 (e1 (opIsX [("NoKeys", true), ("NoWeights", true), ("NoTree", true), ("NoKey", true), ("AtRoot", true), ("BadText", true)]) (eV 4)))))])
  (sRt (eAnd (eV 3) (e2 opEq (eV 2) (eLc (zR1 (eC (.int 6))) [5] 5 yesB (e2 opEq (eV 5) (eV 0)))))))))
def R__law_caught : Nat → List D → Rs D
  | 0 => fun _ => .bad
  | n + 1 => fnOf 6 2 .e (F__law_caught (R__law_refuses n) (R__law_classes n))
theorem S__law_caught (n : Nat) (ds : List D) : R__law_caught (n + 1) ds = fnOf 6 2 .e (F__law_caught (R__law_refuses n) (R__law_classes n)) ds := rfl
def N_law_k18 : List Str := ["script", "cell", "k"]
def B1_law_k18 (r__law_cell_at : List D → Rs D) (r__law_caught : List D → Rs D) : SEnv → Rs Fl :=
  (sIf (bNot (bE (eA r__law_caught (aC (e2 opMod (e2 opAdd (eA r__law_cell_at (aC (eV 0) (aC (eC (.int 0)) aN))) (eV 2)) (eC (.int 6))) (aC (eV 1) aN))))) (sRt (eC (.bool false))) sNx)
theorem x_B1_law_k18 (r__law_cell_at : List D → Rs D) (r__law_caught : List D → Rs D) (env : SEnv) : B1_law_k18 r__law_cell_at r__law_caught env =
  (sIf (bNot (bE (eA r__law_caught (aC (e2 opMod (e2 opAdd (eA r__law_cell_at (aC (eV 0) (aC (eC (.int 0)) aN))) (eV 2)) (eC (.int 6))) (aC (eV 1) aN))))) (sRt (eC (.bool false))) sNx) env := rfl
def F_law_k18 (r__law_cell_at : List D → Rs D) (r__law_caught : List D → Rs D) : SEnv → Rs Fl :=
  (sSq (sAs 1 (e2 opMod (eA r__law_cell_at (aC (eV 0) (aC (eC (.int 1)) aN))) (eC (.int 999983))))
  (sSq (sFor (zR1 (eC (.int 6))) (gS1 2) (B1_law_k18 r__law_cell_at r__law_caught))
  (sRt (eC (.bool true)))))
def R_law_k18 : Nat → List D → Rs D
  | 0 => fun _ => .bad
  | n + 1 => fnOf 3 1 .e (F_law_k18 (R__law_cell_at n) (R__law_caught n))
theorem S_law_k18 (n : Nat) (ds : List D) : R_law_k18 (n + 1) ds = fnOf 3 1 .e (F_law_k18 (R__law_cell_at n) (R__law_caught n)) ds := rfl
end Sk

namespace Sk
namespace k17
open PySem PySem.Spec PyProof.Rows L2
def topS (i : Nat) : Stmt := PySem.Challenge.pw_seektree_k17_refused_ahead_of_all.main.body.getD i (.Pass ⟨0, 0, 0, 0⟩)
abbrev st_row_of : Stmt := topS 16
abbrev st__law_cell_at : Stmt := topS 45
abbrev st__law_mix : Stmt := topS 47
abbrev st__law_many : Stmt := topS 48
abbrev st__law_keys : Stmt := topS 49
abbrev st__law_tree : Stmt := topS 51
abbrev st__law_mirrored : Stmt := topS 54
abbrev st_is_word : Stmt := topS 12
abbrev st_are_keys : Stmt := topS 13
abbrev st_ask_keys : Stmt := topS 14
abbrev st_ask_tree : Stmt := topS 17
abbrev st_sought : Stmt := topS 18
abbrev st_seek : Stmt := topS 19
abbrev st_ask_weights : Stmt := topS 15
abbrev st_cost_of : Stmt := topS 20
abbrev st_cost : Stmt := topS 21
abbrev st__law_weights : Stmt := topS 50
abbrev st_tables : Stmt := topS 23
abbrev st_worths : Stmt := topS 24
abbrev st_least : Stmt := topS 26
abbrev st_roots : Stmt := topS 25
abbrev st_built : Stmt := topS 27
abbrev st_best : Stmt := topS 28
abbrev st_halved : Stmt := topS 30
abbrev st_even : Stmt := topS 31
abbrev st_height : Stmt := topS 32
abbrev st_most_steps : Stmt := topS 33
abbrev st_lifted_left : Stmt := topS 38
abbrev st_lifted_right : Stmt := topS 39
abbrev st_up : Stmt := topS 40
abbrev st_turned : Stmt := topS 41
abbrev st_ways : Stmt := topS 42
abbrev st_turns : Stmt := topS 43
abbrev st_written : Stmt := topS 35
abbrev st_shown : Stmt := topS 36
abbrev st__law_bad_keys : Stmt := topS 52
abbrev st__law_bad_weights : Stmt := topS 53
abbrev st__law_bad_tree : Stmt := topS 55
abbrev st__law_first : Stmt := topS 56
abbrev st__law_second : Stmt := topS 57
abbrev st__law_word : Stmt := topS 58
abbrev st_law_k17 : Stmt := topS 59
structure Xs (K : PySem.W.Frag) (mg : Str → Option Value) (C_NoKey C_NoKeys C_NoTree C_NoWeights C_SeekError : Addr) : Prop where
  g_NoKey : mg "NoKey" = some (.ref C_NoKey)
  n_NoKey : PySem.W.nsIn K mainGlobals "NoKey" = some (some (.ref C_NoKey))
  g_NoKeys : mg "NoKeys" = some (.ref C_NoKeys)
  n_NoKeys : PySem.W.nsIn K mainGlobals "NoKeys" = some (some (.ref C_NoKeys))
  g_NoTree : mg "NoTree" = some (.ref C_NoTree)
  n_NoTree : PySem.W.nsIn K mainGlobals "NoTree" = some (some (.ref C_NoTree))
  g_NoWeights : mg "NoWeights" = some (.ref C_NoWeights)
  n_NoWeights : PySem.W.nsIn K mainGlobals "NoWeights" = some (some (.ref C_NoWeights))
  g_SeekError : mg "SeekError" = some (.ref C_SeekError)
  n_SeekError : PySem.W.nsIn K mainGlobals "SeekError" = some (some (.ref C_SeekError))
  e_NoKeys : ExcC K C_NoKeys
  e_NoWeights : ExcC K C_NoWeights
  e_NoTree : ExcC K C_NoTree
  e_NoKey : ExcC K C_NoKey
  i_NoKey_NoKeys : PySem.W.kitOne K (.ref C_NoKey) (.ref C_NoKeys) = some false
  i_NoKey_NoTree : PySem.W.kitOne K (.ref C_NoKey) (.ref C_NoTree) = some false
  i_NoKey_NoWeights : PySem.W.kitOne K (.ref C_NoKey) (.ref C_NoWeights) = some false
  i_NoKey_ValueError : PySem.W.kitOne K (.ref C_NoKey) (.type "ValueError") = some true
  i_NoKeys_NoKeys : PySem.W.kitOne K (.ref C_NoKeys) (.ref C_NoKeys) = some true
  i_NoKeys_NoTree : PySem.W.kitOne K (.ref C_NoKeys) (.ref C_NoTree) = some false
  i_NoKeys_NoWeights : PySem.W.kitOne K (.ref C_NoKeys) (.ref C_NoWeights) = some false
  i_NoKeys_ValueError : PySem.W.kitOne K (.ref C_NoKeys) (.type "ValueError") = some true
  i_NoTree_NoKeys : PySem.W.kitOne K (.ref C_NoTree) (.ref C_NoKeys) = some false
  i_NoTree_NoTree : PySem.W.kitOne K (.ref C_NoTree) (.ref C_NoTree) = some true
  i_NoTree_NoWeights : PySem.W.kitOne K (.ref C_NoTree) (.ref C_NoWeights) = some false
  i_NoTree_ValueError : PySem.W.kitOne K (.ref C_NoTree) (.type "ValueError") = some true
  i_NoWeights_NoKeys : PySem.W.kitOne K (.ref C_NoWeights) (.ref C_NoKeys) = some false
  i_NoWeights_NoTree : PySem.W.kitOne K (.ref C_NoWeights) (.ref C_NoTree) = some false
  i_NoWeights_NoWeights : PySem.W.kitOne K (.ref C_NoWeights) (.ref C_NoWeights) = some true
  i_NoWeights_ValueError : PySem.W.kitOne K (.ref C_NoWeights) (.type "ValueError") = some true
  m_NoKey_SeekError : PySem.W.exmOne K (.ref C_NoKey) (.ref C_SeekError) = some true
  m_NoKeys_SeekError : PySem.W.exmOne K (.ref C_NoKeys) (.ref C_SeekError) = some true
  m_NoTree_SeekError : PySem.W.exmOne K (.ref C_NoTree) (.ref C_SeekError) = some true
  m_NoWeights_SeekError : PySem.W.exmOne K (.ref C_NoWeights) (.ref C_SeekError) = some true
structure Tp (K : PySem.W.Frag) (mg : Str → Option Value) : Prop where
  n_ValueError : mg "ValueError" = none
  n_all : mg "all" = none
  n_int : mg "int" = none
  n_isinstance : mg "isinstance" = none
  n_len : mg "len" = none
  n_list : mg "list" = none
  n_max : mg "max" = none
  n_min : mg "min" = none
  n_range : mg "range" = none
  n_reversed : mg "reversed" = none
  n_sum : mg "sum" = none
  c_LETTERS : ∃ t, mg "LETTERS" = some (.str "abcdefghijklmnopqrstuvwxyz" t)
  c_MOST_KEYS : ∃ t, mg "MOST_KEYS" = some (.int 12 t)
  c_MOST_LETTERS : ∃ t, mg "MOST_LETTERS" = some (.int 8 t)
  c_MOST_WEIGHT : ∃ t, mg "MOST_WEIGHT" = some (.int 1000000 t)
  x_AtRoot : Xc K mg "AtRoot"
  x_NoKey : Xc K mg "NoKey"
  x_NoKeys : Xc K mg "NoKeys"
  x_NoTree : Xc K mg "NoTree"
  x_NoWeights : Xc K mg "NoWeights"
  xs : ∃ C_NoKey C_NoKeys C_NoTree C_NoWeights C_SeekError : Addr, Xs K mg C_NoKey C_NoKeys C_NoTree C_NoWeights C_SeekError
  d_row_of : Df K mg "row_of" st_row_of ["tree"]
  d__law_cell_at : Df K mg "_law_cell_at" st__law_cell_at ["script", "k"]
  d__law_mix : Df K mg "_law_mix" st__law_mix ["cell", "k"]
  d__law_many : Df K mg "_law_many" st__law_many ["cell", "most"]
  d__law_keys : Df K mg "_law_keys" st__law_keys ["script", "many"]
  d__law_tree : Df K mg "_law_tree" st__law_tree ["keys", "cell", "first", "last"]
  d__law_mirrored : Df K mg "_law_mirrored" st__law_mirrored ["tree"]
  d_is_word : Df K mg "is_word" st_is_word ["text"]
  d_are_keys : Df K mg "are_keys" st_are_keys ["keys"]
  d_ask_keys : Df K mg "ask_keys" st_ask_keys ["keys"]
  d_ask_tree : Df K mg "ask_tree" st_ask_tree ["keys", "tree"]
  d_sought : Df K mg "sought" st_sought ["tree", "word"]
  d_seek : Df K mg "seek" st_seek ["keys", "tree", "word"]
  d_ask_weights : Df K mg "ask_weights" st_ask_weights ["keys", "hits", "misses"]
  d_cost_of : Df K mg "cost_of" st_cost_of ["hits", "misses", "tree", "first", "steps"]
  d_cost : Df K mg "cost" st_cost ["keys", "hits", "misses", "tree"]
  d__law_weights : Df K mg "_law_weights" st__law_weights ["script", "first", "many"]
  d_tables : Df K mg "tables" st_tables ["hits", "misses"]
  d_worths : Df K mg "worths" st_worths ["keys", "hits", "misses"]
  d_least : Df K mg "least" st_least ["keys", "hits", "misses"]
  d_roots : Df K mg "roots" st_roots ["keys", "hits", "misses"]
  d_built : Df K mg "built" st_built ["keys", "root", "first", "last"]
  d_best : Df K mg "best" st_best ["keys", "hits", "misses"]
  d_halved : Df K mg "halved" st_halved ["keys"]
  d_even : Df K mg "even" st_even ["keys"]
  d_height : Df K mg "height" st_height ["tree"]
  d_most_steps : Df K mg "most_steps" st_most_steps ["keys", "tree"]
  d_lifted_left : Df K mg "lifted_left" st_lifted_left ["tree"]
  d_lifted_right : Df K mg "lifted_right" st_lifted_right ["tree"]
  d_up : Df K mg "up" st_up ["tree", "word"]
  d_turned : Df K mg "turned" st_turned ["keys", "tree", "word"]
  d_ways : Df K mg "ways" st_ways ["one", "other"]
  d_turns : Df K mg "turns" st_turns ["keys", "one", "other"]
  d_written : Df K mg "written" st_written ["tree"]
  d_shown : Df K mg "shown" st_shown ["keys", "tree"]
  d__law_bad_keys : Df K mg "_law_bad_keys" st__law_bad_keys ["keys", "cell"]
  d__law_bad_weights : Df K mg "_law_bad_weights" st__law_bad_weights ["rows", "cell"]
  d__law_bad_tree : Df K mg "_law_bad_tree" st__law_bad_tree ["tree", "cell", "keys"]
  d__law_first : Df K mg "_law_first" st__law_first ["which", "keys", "rows", "tree"]
  d__law_second : Df K mg "_law_second" st__law_second ["which", "keys", "tree", "good"]
  d__law_word : Df K mg "_law_word" st__law_word ["which", "keys", "rows", "tree", "good"]
section
variable {P : Program} {w : World} {K : PySem.W.Frag} {mg : Str → Option Value} {base : Heap}
theorem sc_row_of : FnScope N_row_of ["tree"] (defScope st_row_of) := ⟨rfl, rfl, rfl, by decide +kernel, rfl, by decide +kernel, by decide +kernel⟩
theorem k_row_of (T : Tp K mg) : ∀ n, Kn P w K mg base CX0 n "row_of" .o (R_row_of n) := by
  have sc := sc_row_of
  refine kn_0 (fs := fun n => F_row_of (R_row_of n)) T.d_row_of sc (fun _ => rfl) (fun _ => rfl) fun n f hm ih cdv A outer s H E hr => ?_
  exact (ss_cons (ss_if (sb_cmp op_isN os_is (se_v 0) se_non (nomark _)) (ss_one (ss_rtO (so_lst sa_nil))) ss_nil)
  (ss_one (ss_rtO (so_op ox_cat oo_cat (SO.e (so_op ox_cat oo_cat (SO.e (so_call ih hr pass0 (sa_cons (se_ix ix_seq os_ix (se_v 0) se_int (fun _ _ => rfl)) sa_nil))) (SO.e (so_lst (sa_cons (se_ix ix_seq os_ix (se_v 0) se_int (fun _ _ => rfl)) sa_nil))))) (SO.e (so_call ih hr pass0 (sa_cons (se_ix ix_seq os_ix (se_v 0) se_int (fun _ _ => rfl)) sa_nil)))))))
theorem sc__law_cell_at : FnScope N__law_cell_at ["script", "k"] (defScope st__law_cell_at) := ⟨rfl, rfl, rfl, by decide +kernel, rfl, by decide +kernel, by decide +kernel⟩
theorem k__law_cell_at (T : Tp K mg) : ∀ n, Kn P w K mg base CX0 n "_law_cell_at" .e (R__law_cell_at n) := by
  have sc := sc__law_cell_at
  refine kn_0 (fs := fun n => F__law_cell_at) T.d__law_cell_at sc (fun _ => rfl) (fun _ => rfl) fun n f hm ih cdv A outer s H E hr => ?_
  exact (ss_cons (ss_if (sb_cmp ox_lt os_lt (se_v 1) (se_callB ox_len os_len T.n_len (by decide +kernel) (sa_cons (se_v 0) sa_nil)) (nomark _)) (ss_one (ss_rt (se_ix ix_seq os_ix (se_v 0) (se_v 1) (fun _ _ => rfl)))) ss_nil)
  (ss_one (ss_rt se_int)))
theorem sc__law_mix : FnScope N__law_mix ["cell", "k"] (defScope st__law_mix) := ⟨rfl, rfl, rfl, by decide +kernel, rfl, by decide +kernel, by decide +kernel⟩
theorem k__law_mix (T : Tp K mg) : ∀ n, Kn P w K mg base CX0 n "_law_mix" .e (R__law_mix n) := by
  have sc := sc__law_mix
  refine kn_0 (fs := fun n => F__law_mix) T.d__law_mix sc (fun _ => rfl) (fun _ => rfl) fun n f hm ih cdv A outer s H E hr => ?_
  exact (ss_cons (ss_as (ps_set (i := 2) sc.nd rfl (by first | exact Or.inl rfl | exact Or.inr rfl) (se_op op_mod os_mod (se_op ox_add os_add (se_op ox_add os_add (se_op op_mul os_mul (se_v 0) se_int) (se_op op_mul os_mul se_int (se_v 1))) se_int) se_int)))
  (ss_cons (ss_as (ps_set (i := 2) sc.nd rfl (by first | exact Or.inl rfl | exact Or.inr rfl) (se_op op_mod os_mod (se_op ox_add os_add (se_op ox_add os_add (se_op op_mul os_mul (se_v 2) (se_v 2)) (se_op op_mul os_mul se_int (se_v 1))) se_int) se_int)))
  (ss_one (ss_rt (se_op op_mod os_mod (se_op op_mul os_mul (se_v 2) (se_v 2)) se_int)))))
theorem sc__law_many : FnScope N__law_many ["cell", "most"] (defScope st__law_many) := ⟨rfl, rfl, rfl, by decide +kernel, rfl, by decide +kernel, by decide +kernel⟩
theorem k__law_many (T : Tp K mg) : ∀ n, Kn P w K mg base CX0 n "_law_many" .e (R__law_many n) := by
  have sc := sc__law_many
  refine kn_0 (fs := fun n => F__law_many) T.d__law_many sc (fun _ => rfl) (fun _ => rfl) fun n f hm ih cdv A outer s H E hr => ?_
  exact (ss_cons (ss_if (sb_cmp (ox_eq (Room.u64 hr)) os_eq (se_op op_mod os_mod (se_op op_fdiv os_div (se_v 0) se_int) se_int) se_int (nomark _)) (ss_one (ss_rt (se_op op_mod os_mod (se_op op_fdiv os_div (se_v 0) se_int) (se_op ox_add os_add (se_v 1) se_int)))) ss_nil)
  (ss_one (ss_rt (se_op op_mod os_mod (se_v 0) (se_callB (ox_min rfl) os_min T.n_min (by decide +kernel) (sa_cons se_int (sa_cons (se_op ox_add os_add (se_v 1) se_int) sa_nil)))))))
theorem sc__law_keys : FnScope N__law_keys ["script", "many"] (defScope st__law_keys) := ⟨rfl, rfl, rfl, by decide +kernel, rfl, by decide +kernel, by decide +kernel⟩
theorem k__law_keys (T : Tp K mg) : ∀ n, Kn P w K mg base CX0 n "_law_keys" .o (R__law_keys n) := by
  have sc := sc__law_keys
  refine kn_0 (fs := fun n => F__law_keys (R__law_cell_at n)) T.d__law_keys sc (fun _ => rfl) (fun _ => rfl) fun n f hm ih cdv A outer s H E hr => ?_
  have g__law_cell_at := k__law_cell_at (P := P) (w := w) (base := base) T n
  exact (ss_cons (ss_as (ps_set (i := 2) sc.nd rfl (by first | exact Or.inl rfl | exact Or.inr rfl) (se_call g__law_cell_at hr pass0 (sa_cons (se_v 0) (sa_cons se_int sa_nil)))))
  (ss_cons (ss_if (PW.pt (sw_and (sb_cmp (ox_eq (Room.u64 hr)) os_eq (se_op op_mod os_mod (se_op op_fdiv os_div (se_v 2) se_int) se_int) se_int (nomark _)) (sw_one (sb_cmp ox_le os_le (se_v 1) se_int (nomark _)) (by first | exact Or.inl rfl | exact Or.inr rfl)))) (ss_one (ss_rtO (so_lc  rfl sc.nd (src_rng1 T.n_range (se_v 1)) (blkOk_by (N := N__law_keys) (sc := (defScope st__law_keys)) (by decide +kernel)) (own := [("k", 4)]) (fun _ _ _ _ _ => pg_name (i := 4) sc.nd rfl (by first | exact Or.inl rfl | exact Or.inr rfl)) (fun _ _ _ _ _ => pts_yes) (fun _ _ _ _ _ => (se_slS (se_op ox_rep os_rep se_str se_int) so_n (so_s (se_op ox_add os_add (se_v 4) se_int)))) (List.mem_singleton.mpr rfl)))) ss_nil)
  (ss_cons (ss_nw (ps_set (i := 3) sc.nd rfl (by first | exact Or.inl rfl | exact Or.inr rfl) (so_lst sa_nil)))
  (ss_cons (ss_for PassesOwn.never rfl (src_rng1 T.n_range (se_v 1)) (pg_name (i := 4) sc.nd rfl (by first | exact Or.inl rfl | exact Or.inr rfl)) (tg_1 4) ne_gS1 (ss_cons (ss_as (ps_set (i := 5) sc.nd rfl (by first | exact Or.inl rfl | exact Or.inr rfl) (se_slS se_str so_n (so_s (se_op op_mod os_mod (se_call g__law_cell_at hr pass0 (sa_cons (se_v 0) (sa_cons (se_op ox_add os_add se_int (se_v 4)) sa_nil))) se_int)))))
  (ss_one (ss_ap (pv 3) (se_op ox_add os_add (se_op ox_add os_add (se_slS se_str so_n (so_s (se_op op_mod os_mod (se_v 2) se_int))) (se_ix ix_seq os_ix se_str (se_v 4) (fun _ _ => rfl))) (se_v 5))))))
  (ss_one (ss_rtV (pv 3)))))))
theorem sc__law_tree : FnScope N__law_tree ["keys", "cell", "first", "last"] (defScope st__law_tree) := ⟨rfl, rfl, rfl, by decide +kernel, rfl, by decide +kernel, by decide +kernel⟩
theorem k__law_tree (T : Tp K mg) : ∀ n, Kn P w K mg base CX0 n "_law_tree" .e (R__law_tree n) := by
  have sc := sc__law_tree
  refine kn_0 (fs := fun n => F__law_tree (R__law_tree n) (R__law_mix n)) T.d__law_tree sc (fun _ => rfl) (fun _ => rfl) fun n f hm ih cdv A outer s H E hr => ?_
  have g__law_mix := k__law_mix (P := P) (w := w) (base := base) T n
  exact (ss_cons (ss_if (sb_cmp (ox_eq (Room.u64 hr)) os_eq (se_v 2) (se_v 3) (nomark _)) (ss_one (ss_rt se_non)) ss_nil)
  (ss_cons (ss_as (ps_set (i := 4) sc.nd rfl (by first | exact Or.inl rfl | exact Or.inr rfl) (se_op ox_add os_add (se_v 2) (se_op op_mod os_mod (se_op op_fdiv os_div (se_call g__law_mix hr pass0 (sa_cons (se_v 1) (sa_cons (se_op ox_add os_add (se_op op_mul os_mul se_int (se_v 2)) (se_v 3)) sa_nil))) se_int) (se_op op_sub os_sub (se_v 3) (se_v 2))))))
  (ss_cons (ss_if (sb_cmp (ox_eq (Room.u64 hr)) os_eq (se_op op_mod os_mod (se_v 1) se_int) se_int (nomark _)) (ss_one (ss_as (ps_set (i := 4) sc.nd rfl (by first | exact Or.inl rfl | exact Or.inr rfl) (se_v 2)))) ss_nil)
  (ss_cons (ss_if (sb_cmp (ox_eq (Room.u64 hr)) os_eq (se_op op_mod os_mod (se_v 1) se_int) se_int (nomark _)) (ss_one (ss_as (ps_set (i := 4) sc.nd rfl (by first | exact Or.inl rfl | exact Or.inr rfl) (se_op op_sub os_sub (se_v 3) se_int)))) ss_nil)
  (ss_one (ss_rt (se_tup (sa_cons (se_ix ix_seq os_ix (se_v 0) (se_v 4) (fun _ _ => rfl)) (sa_cons (se_call ih hr pass0 (sa_cons (se_v 0) (sa_cons (se_v 1) (sa_cons (se_v 2) (sa_cons (se_v 4) sa_nil))))) (sa_cons (se_call ih hr pass0 (sa_cons (se_v 0) (sa_cons (se_v 1) (sa_cons (se_op ox_add os_add (se_v 4) se_int) (sa_cons (se_v 3) sa_nil))))) sa_nil))))))))))
theorem sc__law_mirrored : FnScope N__law_mirrored ["tree"] (defScope st__law_mirrored) := ⟨rfl, rfl, rfl, by decide +kernel, rfl, by decide +kernel, by decide +kernel⟩
theorem k__law_mirrored (T : Tp K mg) : ∀ n, Kn P w K mg base CX0 n "_law_mirrored" .e (R__law_mirrored n) := by
  have sc := sc__law_mirrored
  refine kn_0 (fs := fun n => F__law_mirrored (R__law_mirrored n)) T.d__law_mirrored sc (fun _ => rfl) (fun _ => rfl) fun n f hm ih cdv A outer s H E hr => ?_
  exact (ss_cons (ss_if (sb_cmp op_isN os_is (se_v 0) se_non (nomark _)) (ss_one (ss_rt se_non)) ss_nil)
  (ss_one (ss_rt (se_tup (sa_cons (se_ix ix_seq os_ix (se_v 0) se_int (fun _ _ => rfl)) (sa_cons (se_call ih hr pass0 (sa_cons (se_ix ix_seq os_ix (se_v 0) se_int (fun _ _ => rfl)) sa_nil)) (sa_cons (se_call ih hr pass0 (sa_cons (se_ix ix_seq os_ix (se_v 0) se_int (fun _ _ => rfl)) sa_nil)) sa_nil)))))))
theorem sc_is_word : FnScope N_is_word ["text"] (defScope st_is_word) := ⟨rfl, rfl, rfl, by decide +kernel, rfl, by decide +kernel, by decide +kernel⟩
theorem k_is_word (T : Tp K mg) : ∀ n, Kn P w K mg base CX0 n "is_word" .e (R_is_word n) := by
  have sc := sc_is_word
  obtain ⟨t_LETTERS, c_LETTERS⟩ := T.c_LETTERS
  obtain ⟨t_MOST_LETTERS, c_MOST_LETTERS⟩ := T.c_MOST_LETTERS
  refine kn_0 (fs := fun n => F_is_word) T.d_is_word sc (fun _ => rfl) (fun _ => rfl) fun n f hm ih cdv A outer s H E hr => ?_
  exact (ss_cons (ss_if (sb_not (sb_chain ox_le os_le ox_le os_le ne_opLe se_int (se_callB ox_len os_len T.n_len (by decide +kernel) (sa_cons (se_v 0) sa_nil)) (se_globI rfl c_MOST_LETTERS))) (ss_one (ss_rt se_bl)) ss_nil)
  (ss_one (ss_rt (se_callB (cr_all rfl) os_all T.n_all (by decide +kernel) (sa_cons (SO.e (so_lc  rfl sc.nd (src_str (se_v 0)) (blkOk_by (N := N_is_word) (sc := (defScope st_is_word)) (by decide +kernel)) (own := [("sign", 1)]) (fun _ _ _ _ _ => pg_name (i := 1) sc.nd rfl (by first | exact Or.inl rfl | exact Or.inr rfl)) (fun _ _ _ _ _ => pts_yes) (fun _ _ _ _ _ => (se_cmp ox_in os_in (se_v 1) (se_globS rfl c_LETTERS) (by with_unfolding_all rfl))) (List.mem_singleton.mpr rfl))) sa_nil)))))
theorem sc_are_keys : FnScope N_are_keys ["keys"] (defScope st_are_keys) := ⟨rfl, rfl, rfl, by decide +kernel, rfl, by decide +kernel, by decide +kernel⟩
theorem k_are_keys (T : Tp K mg) : ∀ n, Kn P w K mg base CX0 n "are_keys" .e (R_are_keys n) := by
  have sc := sc_are_keys
  obtain ⟨t_MOST_KEYS, c_MOST_KEYS⟩ := T.c_MOST_KEYS
  refine kn_0 (fs := fun n => F_are_keys (R_is_word n)) T.d_are_keys sc (fun _ => rfl) (fun _ => rfl) fun n f hm ih cdv A outer s H E hr => ?_
  have g_is_word := k_is_word (P := P) (w := w) (base := base) T n
  exact (ss_cons (ss_if (PW.pt (sw_or (sb_cmp ox_gt os_gt (se_callB ox_len os_len T.n_len (by decide +kernel) (sa_cons (se_v 0) sa_nil)) (se_globI rfl c_MOST_KEYS) (nomark _)) (sw_one (sb_not (sb_val (se_callB (cr_all rfl) os_all T.n_all (by decide +kernel) (sa_cons (SO.e (so_lc  rfl sc.nd (src_list (se_v 0)) (blkOk_by (N := N_are_keys) (sc := (defScope st_are_keys)) (by decide +kernel)) (own := [("key", 2)]) (fun _ _ _ _ _ => pg_name (i := 2) sc.nd rfl (by first | exact Or.inl rfl | exact Or.inr rfl)) (fun _ _ _ _ _ => pts_yes) (fun _ _ _ _ _ => (se_call g_is_word hr pass0 (sa_cons (se_v 2) sa_nil))) (List.mem_singleton.mpr rfl))) sa_nil)))) (by first | exact Or.inl rfl | exact Or.inr rfl)))) (ss_one (ss_rt se_bl)) ss_nil)
  (ss_one (ss_rt (se_callB (cr_all rfl) os_all T.n_all (by decide +kernel) (sa_cons (SO.e (so_lc  rfl sc.nd (src_rng2 T.n_range se_int (se_callB ox_len os_len T.n_len (by decide +kernel) (sa_cons (se_v 0) sa_nil))) (blkOk_by (N := N_are_keys) (sc := (defScope st_are_keys)) (by decide +kernel)) (own := [("k", 1)]) (fun _ _ _ _ _ => pg_name (i := 1) sc.nd rfl (by first | exact Or.inl rfl | exact Or.inr rfl)) (fun _ _ _ _ _ => pts_yes) (fun _ _ _ _ _ => (se_cmp ox_lt os_lt (se_ix ix_seq os_ix (se_v 0) (se_op op_sub os_sub (se_v 1) se_int) (fun _ _ => rfl)) (se_ix ix_seq os_ix (se_v 0) (se_v 1) (fun _ _ => rfl)) (nomark _))) (List.mem_singleton.mpr rfl))) sa_nil)))))
theorem sc_ask_keys : FnScope N_ask_keys ["keys"] (defScope st_ask_keys) := ⟨rfl, rfl, rfl, by decide +kernel, rfl, by decide +kernel, by decide +kernel⟩
theorem k_ask_keys (T : Tp K mg) : ∀ n, Kn P w K mg base (L2.CX P w) n "ask_keys" .e (R_ask_keys n) := by
  have sc := sc_ask_keys
  obtain ⟨CP_NoKeys, gP_NoKeys, xP_NoKeys, kP_NoKeys, bP_NoKeys, tP_NoKeys⟩ := T.x_NoKeys.ex
  refine kn_X (fs := fun n => F_ask_keys (R_are_keys n)) T.d_ask_keys sc (fun _ => rfl) (fun _ => rfl) fun n f hm ih cdv A outer s H E hr => ?_
  have g_are_keys := k_are_keys (P := P) (w := w) (base := base) T n
  exact (ss_one (ss_if (sb_not (sb_val (se_call g_are_keys hr pass0 (sa_cons (se_v 0) sa_nil)))) (ss_one (ss_raise rfl (takes_of rfl rfl rfl rfl) gP_NoKeys (pmk_own PySem.F.excBase_ValueError xP_NoKeys gP_NoKeys kP_NoKeys (raises_own bP_NoKeys tP_NoKeys) rfl))) ss_nil))
theorem sc_ask_tree : FnScope N_ask_tree ["keys", "tree"] (defScope st_ask_tree) := ⟨rfl, rfl, rfl, by decide +kernel, rfl, by decide +kernel, by decide +kernel⟩
theorem k_ask_tree (T : Tp K mg) : ∀ n, Kn P w K mg base (L2.CX P w) n "ask_tree" .e (R_ask_tree n) := by
  have sc := sc_ask_tree
  obtain ⟨CP_NoTree, gP_NoTree, xP_NoTree, kP_NoTree, bP_NoTree, tP_NoTree⟩ := T.x_NoTree.ex
  refine kn_X (fs := fun n => F_ask_tree (R_row_of n)) T.d_ask_tree sc (fun _ => rfl) (fun _ => rfl) fun n f hm ih cdv A outer s H E hr => ?_
  have g_row_of := k_row_of (P := P) (w := w) (base := base) T n
  exact (ss_one (ss_if (sb_cmp (ox_ne (Room.u64 hr)) os_ne (SO.e (so_call g_row_of hr pass0 (sa_cons (se_v 1) sa_nil))) (SO.e (so_callT call_list_of oo_list T.n_list (by decide +kernel) (sa_cons (se_v 0) sa_nil))) (nomark _)) (ss_one (ss_raise rfl (takes_of rfl rfl rfl rfl) gP_NoTree (pmk_own PySem.F.excBase_ValueError xP_NoTree gP_NoTree kP_NoTree (raises_own bP_NoTree tP_NoTree) rfl))) ss_nil))
theorem sc_sought : FnScope N_sought ["tree", "word"] (defScope st_sought) := ⟨rfl, rfl, rfl, by decide +kernel, rfl, by decide +kernel, by decide +kernel⟩
theorem k_sought (T : Tp K mg) : ∀ n, Kn P w K mg base CX0 n "sought" .e (R_sought n) := by
  have sc := sc_sought
  refine kn_0 (fs := fun n => F_sought) T.d_sought sc (fun _ => rfl) (fun _ => rfl) fun n f hm ih cdv A outer s H E hr => ?_
  exact (ss_cons (ss_as (ps_set (i := 2) sc.nd rfl (by first | exact Or.inl rfl | exact Or.inr rfl) se_int))
  (ss_cons (ss_wh 1000 PassesOwn.never (sb_cmp op_notN os_isn (se_v 0) se_non (nomark _)) (ss_cons (ss_as (ps_set (i := 2) sc.nd rfl (by first | exact Or.inl rfl | exact Or.inr rfl) (se_op ox_add os_add (se_v 2) se_int)))
  (ss_cons (ss_if (sb_cmp (ox_eq (Room.u64 hr)) os_eq (se_ix ix_seq os_ix (se_v 0) se_int (fun _ _ => rfl)) (se_v 1) (nomark _)) (ss_one (ss_rt (se_tup (sa_cons (se_v 2) (sa_cons se_bl sa_nil))))) ss_nil)
  (ss_one (ss_if (sb_cmp ox_lt os_lt (se_v 1) (se_ix ix_seq os_ix (se_v 0) se_int (fun _ _ => rfl)) (nomark _)) (ss_one (ss_as (ps_set (i := 0) sc.nd rfl (by first | exact Or.inl rfl | exact Or.inr rfl) (se_ix ix_seq os_ix (se_v 0) se_int (fun _ _ => rfl))))) (ss_one (ss_as (ps_set (i := 0) sc.nd rfl (by first | exact Or.inl rfl | exact Or.inr rfl) (se_ix ix_seq os_ix (se_v 0) se_int (fun _ _ => rfl))))))))))
  (ss_one (ss_rt (se_tup (sa_cons (se_v 2) (sa_cons se_bl sa_nil)))))))
theorem sc_seek : FnScope N_seek ["keys", "tree", "word"] (defScope st_seek) := ⟨rfl, rfl, rfl, by decide +kernel, rfl, by decide +kernel, by decide +kernel⟩
theorem k_seek (T : Tp K mg) : ∀ n, Kn P w K mg base (L2.CX P w) n "seek" .e (R_seek n) := by
  have sc := sc_seek
  refine kn_X (fs := fun n => F_seek (R_ask_keys n) (R_ask_tree n) (R_sought n)) T.d_seek sc (fun _ => rfl) (fun _ => rfl) fun n f hm ih cdv A outer s H E hr => ?_
  have g_ask_keys := k_ask_keys (P := P) (w := w) (base := base) T n
  have g_ask_tree := k_ask_tree (P := P) (w := w) (base := base) T n
  have g_sought := k_sought (P := P) (w := w) (base := base) T n
  exact (ss_cons (ss_ex (se_call g_ask_keys hr (passes_call (takes_of rfl rfl rfl rfl) (fun _ _ _ _ h => h)) (sa_cons (se_v 0) sa_nil)))
  (ss_cons (ss_ex (se_call g_ask_tree hr (passes_call (takes_of rfl rfl rfl rfl) (fun _ _ _ _ h => h)) (sa_cons (se_v 0) (sa_cons (se_v 1) sa_nil))))
  (ss_cons (ss_as (ps_set (i := 3) sc.nd rfl (by first | exact Or.inl rfl | exact Or.inr rfl) (se_call g_sought hr pass0 (sa_cons (se_v 1) (sa_cons (se_v 2) sa_nil)))))
  (ss_cons (ss_if (sb_val (se_ix ix_seq os_ix (se_v 3) se_int (fun _ _ => rfl))) (ss_one (ss_rt (se_tup (sa_cons se_str (sa_cons (se_ix ix_seq os_ix (se_v 3) se_int (fun _ _ => rfl)) sa_nil))))) ss_nil)
  (ss_one (ss_rt (se_tup (sa_cons se_str (sa_cons (se_callB ox_len os_len T.n_len (by decide +kernel) (sa_cons (SO.e (so_lc  rfl sc.nd (src_list (se_v 0)) (blkOk_by (N := N_seek) (sc := (defScope st_seek)) (by decide +kernel)) (own := [("key", 4)]) (fun _ _ _ _ _ => pg_name (i := 4) sc.nd rfl (by first | exact Or.inl rfl | exact Or.inr rfl)) (fun _ _ _ _ _ => (pts_one (sb_cmp ox_lt os_lt (se_v 4) (se_v 2) (nomark _)))) (fun _ _ _ _ _ => (se_v 4)) (List.mem_singleton.mpr rfl))) sa_nil)) (sa_cons (se_ix ix_seq os_ix (se_v 3) se_int (fun _ _ => rfl)) sa_nil))))))))))
theorem sc_ask_weights : FnScope N_ask_weights ["keys", "hits", "misses"] (defScope st_ask_weights) := ⟨rfl, rfl, rfl, by decide +kernel, rfl, by decide +kernel, by decide +kernel⟩
theorem k_ask_weights (T : Tp K mg) : ∀ n, Kn P w K mg base (L2.CX P w) n "ask_weights" .e (R_ask_weights n) := by
  have sc := sc_ask_weights
  obtain ⟨t_MOST_WEIGHT, c_MOST_WEIGHT⟩ := T.c_MOST_WEIGHT
  obtain ⟨CP_NoWeights, gP_NoWeights, xP_NoWeights, kP_NoWeights, bP_NoWeights, tP_NoWeights⟩ := T.x_NoWeights.ex
  refine kn_X (fs := fun n => F_ask_weights (R_ask_keys n)) T.d_ask_weights sc (fun _ => rfl) (fun _ => rfl) fun n f hm ih cdv A outer s H E hr => ?_
  have g_ask_keys := k_ask_keys (P := P) (w := w) (base := base) T n
  exact (ss_cons (ss_ex (se_call g_ask_keys hr (passes_call (takes_of rfl rfl rfl rfl) (fun _ _ _ _ h => h)) (sa_cons (se_v 0) sa_nil)))
  (ss_cons (ss_if (PW.pt (sw_or (sb_cmp (ox_ne (Room.u64 hr)) os_ne (se_callB ox_len os_len T.n_len (by decide +kernel) (sa_cons (se_v 1) sa_nil)) (se_callB ox_len os_len T.n_len (by decide +kernel) (sa_cons (se_v 0) sa_nil)) (nomark _)) (sw_one (sb_cmp (ox_ne (Room.u64 hr)) os_ne (se_callB ox_len os_len T.n_len (by decide +kernel) (sa_cons (se_v 2) sa_nil)) (se_op ox_add os_add (se_callB ox_len os_len T.n_len (by decide +kernel) (sa_cons (se_v 0) sa_nil)) se_int) (nomark _)) (by first | exact Or.inl rfl | exact Or.inr rfl)))) (ss_one (ss_raise rfl (takes_of rfl rfl rfl rfl) gP_NoWeights (pmk_own PySem.F.excBase_ValueError xP_NoWeights gP_NoWeights kP_NoWeights (raises_own bP_NoWeights tP_NoWeights) rfl))) ss_nil)
  (ss_one (ss_for (passes_of rfl) rfl (src_list (SO.e (so_op ox_cat oo_cat (SO.e (so_callT call_list_of oo_list T.n_list (by decide +kernel) (sa_cons (se_v 1) sa_nil))) (SO.e (so_callT call_list_of oo_list T.n_list (by decide +kernel) (sa_cons (se_v 2) sa_nil)))))) (pg_name (i := 3) sc.nd rfl (by first | exact Or.inl rfl | exact Or.inr rfl)) (tg_1 3) ne_gS1 (ss_one (ss_if (sb_not (sb_chain ox_le os_le ox_le os_le ne_opLe se_int (se_v 3) (se_globI rfl c_MOST_WEIGHT))) (ss_one (ss_raise rfl (takes_of rfl rfl rfl rfl) gP_NoWeights (pmk_own PySem.F.excBase_ValueError xP_NoWeights gP_NoWeights kP_NoWeights (raises_own bP_NoWeights tP_NoWeights) rfl))) ss_nil))))))
theorem sc_cost_of : FnScope N_cost_of ["hits", "misses", "tree", "first", "steps"] (defScope st_cost_of) := ⟨rfl, rfl, rfl, by decide +kernel, rfl, by decide +kernel, by decide +kernel⟩
theorem k_cost_of (T : Tp K mg) : ∀ n, Kn P w K mg base CX0 n "cost_of" .e (R_cost_of n) := by
  have sc := sc_cost_of
  refine kn_0 (fs := fun n => F_cost_of (R_cost_of n)) T.d_cost_of sc (fun _ => rfl) (fun _ => rfl) fun n f hm ih cdv A outer s H E hr => ?_
  exact (ss_cons (ss_if (sb_cmp op_isN os_is (se_v 2) se_non (nomark _)) (ss_one (ss_rt (se_tup (sa_cons (se_op op_mul os_mul (se_ix ix_seq os_ix (se_v 1) (se_v 3) (fun _ _ => rfl)) (se_v 4)) (sa_cons (se_v 3) sa_nil))))) ss_nil)
  (ss_cons (ss_as (ps_set (i := 5) sc.nd rfl (by first | exact Or.inl rfl | exact Or.inr rfl) (se_call ih hr pass0 (sa_cons (se_v 0) (sa_cons (se_v 1) (sa_cons (se_ix ix_seq os_ix (se_v 2) se_int (fun _ _ => rfl)) (sa_cons (se_v 3) (sa_cons (se_op ox_add os_add (se_v 4) se_int) sa_nil))))))))
  (ss_cons (ss_as (ps_set (i := 6) sc.nd rfl (by first | exact Or.inl rfl | exact Or.inr rfl) (se_call ih hr pass0 (sa_cons (se_v 0) (sa_cons (se_v 1) (sa_cons (se_ix ix_seq os_ix (se_v 2) se_int (fun _ _ => rfl)) (sa_cons (se_op ox_add os_add (se_ix ix_seq os_ix (se_v 5) se_int (fun _ _ => rfl)) se_int) (sa_cons (se_op ox_add os_add (se_v 4) se_int) sa_nil))))))))
  (ss_one (ss_rt (se_tup (sa_cons (se_op ox_add os_add (se_op ox_add os_add (se_ix ix_seq os_ix (se_v 5) se_int (fun _ _ => rfl)) (se_op op_mul os_mul (se_ix ix_seq os_ix (se_v 0) (se_ix ix_seq os_ix (se_v 5) se_int (fun _ _ => rfl)) (fun _ _ => rfl)) (se_op ox_add os_add (se_v 4) se_int))) (se_ix ix_seq os_ix (se_v 6) se_int (fun _ _ => rfl))) (sa_cons (se_ix ix_seq os_ix (se_v 6) se_int (fun _ _ => rfl)) sa_nil))))))))
theorem sc_cost : FnScope N_cost ["keys", "hits", "misses", "tree"] (defScope st_cost) := ⟨rfl, rfl, rfl, by decide +kernel, rfl, by decide +kernel, by decide +kernel⟩
theorem k_cost (T : Tp K mg) : ∀ n, Kn P w K mg base (L2.CX P w) n "cost" .e (R_cost n) := by
  have sc := sc_cost
  refine kn_X (fs := fun n => F_cost (R_ask_weights n) (R_ask_tree n) (R_cost_of n)) T.d_cost sc (fun _ => rfl) (fun _ => rfl) fun n f hm ih cdv A outer s H E hr => ?_
  have g_ask_weights := k_ask_weights (P := P) (w := w) (base := base) T n
  have g_ask_tree := k_ask_tree (P := P) (w := w) (base := base) T n
  have g_cost_of := k_cost_of (P := P) (w := w) (base := base) T n
  exact (ss_cons (ss_ex (se_call g_ask_weights hr (passes_call (takes_of rfl rfl rfl rfl) (fun _ _ _ _ h => h)) (sa_cons (se_v 0) (sa_cons (se_v 1) (sa_cons (se_v 2) sa_nil)))))
  (ss_cons (ss_ex (se_call g_ask_tree hr (passes_call (takes_of rfl rfl rfl rfl) (fun _ _ _ _ h => h)) (sa_cons (se_v 0) (sa_cons (se_v 3) sa_nil))))
  (ss_one (ss_rt (se_ix ix_seq os_ix (se_call g_cost_of hr pass0 (sa_cons (se_v 1) (sa_cons (se_v 2) (sa_cons (se_v 3) (sa_cons se_int (sa_cons se_int sa_nil)))))) se_int (fun _ _ => rfl))))))
theorem sc__law_weights : FnScope N__law_weights ["script", "first", "many"] (defScope st__law_weights) := ⟨rfl, rfl, rfl, by decide +kernel, rfl, by decide +kernel, by decide +kernel⟩
theorem k__law_weights (T : Tp K mg) : ∀ n, Kn P w K mg base CX0 n "_law_weights" .o (R__law_weights n) := by
  have sc := sc__law_weights
  refine kn_0 (fs := fun n => F__law_weights (R__law_cell_at n) (R__law_mix n)) T.d__law_weights sc (fun _ => rfl) (fun _ => rfl) fun n f hm ih cdv A outer s H E hr => ?_
  have g__law_cell_at := k__law_cell_at (P := P) (w := w) (base := base) T n
  have g__law_mix := k__law_mix (P := P) (w := w) (base := base) T n
  exact (ss_cons (ss_as (ps_set (i := 3) sc.nd rfl (by first | exact Or.inl rfl | exact Or.inr rfl) (se_ix ix_seq os_ix (SO.e (so_lst (sa_cons se_int (sa_cons se_int (sa_cons se_int (sa_cons se_int sa_nil)))))) (se_op op_mod os_mod (se_call g__law_cell_at hr pass0 (sa_cons (se_v 0) (sa_cons se_int sa_nil))) se_int) (fun _ _ => rfl))))
  (ss_cons (ss_nw (as_lc (k := 4)  rfl sc.nd rfl rfl (sw_true rfl rfl rfl (by decide +kernel)) (src_rng1 T.n_range (se_v 2)) (blkOk_by (N := N__law_weights) (sc := (defScope st__law_weights)) (by decide +kernel)) (own := [("k", 5)]) (fun _ _ _ _ _ => pg_name (i := 5) sc.nd rfl (by first | exact Or.inl rfl | exact Or.inr rfl)) (fun _ _ _ _ _ => pts_yes) (fun _ _ _ _ _ => (se_op op_mod os_mod (se_op op_fdiv os_div (se_call g__law_mix hr pass0 (sa_cons (se_call g__law_cell_at hr pass0 (sa_cons (se_v 0) (sa_cons (se_op ox_add os_add (se_v 1) (se_v 5)) sa_nil))) (sa_cons (se_v 5) sa_nil))) se_int) (se_v 3))) (List.mem_singleton.mpr rfl)))
  (ss_cons (ss_if (sb_cmp ox_gt os_gt (se_v 3) se_int (nomark _)) (ss_one (ss_nwB (as_lc (k := 4)  rfl sc.nd rfl rfl (sw_true rfl rfl rfl (by decide +kernel)) (src_list (se_v 4)) (blkOk_by (N := N__law_weights) (sc := (defScope st__law_weights)) (by decide +kernel)) (own := [("weight", 6)]) (fun _ _ _ _ _ => pg_name (i := 6) sc.nd rfl (by first | exact Or.inl rfl | exact Or.inr rfl)) (fun _ _ _ _ _ => pts_yes) (fun _ _ _ _ _ => (se_ix ix_seq os_ix (SO.e (so_lst (sa_cons (se_v 6) (sa_cons se_int sa_nil)))) (se_callT call_int1 os_int T.n_int (by decide +kernel) (sa_cons (se_cmp (ox_eq (Room.u64 hr)) os_eq (se_op op_mod os_mod (se_v 6) se_int) se_int (nomark _)) sa_nil)) (fun _ _ => rfl))) (List.mem_singleton.mpr rfl)))) ss_nil)
  (ss_one (ss_rtV (pv 4))))))
theorem sc_tables : FnScope N_tables ["hits", "misses"] (defScope st_tables) := ⟨rfl, rfl, rfl, by decide +kernel, rfl, by decide +kernel, by decide +kernel⟩
theorem k_tables (T : Tp K mg) : ∀ n, Kn P w K mg base CX0 n "tables" .e (R_tables n) := by
  have sc := sc_tables
  refine kn_0 (fs := fun n => F_tables) T.d_tables sc (fun _ => rfl) (fun _ => rfl) fun n f hm ih cdv A outer s H E hr => ?_
  exact (ss_cons (ss_as (ps_set (i := 2) sc.nd rfl (by first | exact Or.inl rfl | exact Or.inr rfl) (se_callB ox_len os_len T.n_len (by decide +kernel) (sa_cons (se_v 0) sa_nil))))
  (ss_cons (ss_nw (ps_set (i := 3) sc.nd rfl (by first | exact Or.inl rfl | exact Or.inr rfl) so_dnew))
  (ss_cons (ss_nw (ps_set (i := 4) sc.nd rfl (by first | exact Or.inl rfl | exact Or.inr rfl) so_dnew))
  (ss_cons (ss_for PassesOwn.never rfl (src_rng1 T.n_range (se_op ox_add os_add (se_v 2) se_int)) (pg_name (i := 5) sc.nd rfl (by first | exact Or.inl rfl | exact Or.inr rfl)) (tg_1 5) ne_gS1 (ss_one (ss_for PassesOwn.never rfl (src_rng1 T.n_range (se_op op_sub os_sub (se_op ox_add os_add (se_v 2) se_int) (se_v 5))) (pg_name (i := 6) sc.nd rfl (by first | exact Or.inl rfl | exact Or.inr rfl)) (tg_1 6) ne_gS1 (ss_cons (ss_as (ps_set (i := 7) sc.nd rfl (by first | exact Or.inl rfl | exact Or.inr rfl) (se_op ox_add os_add (se_v 6) (se_v 5))))
  (ss_one (ss_if (sb_cmp (ox_eq (Room.u64 hr)) os_eq (se_v 5) se_int (nomark _)) (ss_one (ss_dp (hu_of hr) (pv 3) (se_v 6) (se_v 7) se_int)) (ss_cons (ss_as (ps_set (i := 8) sc.nd rfl (by first | exact Or.inl rfl | exact Or.inr rfl) (se_op ox_add os_add (se_callB (cr_sum rfl) os_sum T.n_sum (by decide +kernel) (sa_cons (SO.e (so_slL (se_v 0) (so_s (se_v 6)) (so_s (se_v 7)))) sa_nil)) (se_callB (cr_sum rfl) os_sum T.n_sum (by decide +kernel) (sa_cons (SO.e (so_slL (se_v 1) (so_s (se_v 6)) (so_s (se_op ox_add os_add (se_v 7) se_int)))) sa_nil)))))
  (ss_cons (ss_nwB (as_lc (k := 9)  rfl sc.nd rfl rfl (sw_true rfl rfl rfl (by decide +kernel)) (src_rng2 T.n_range (se_v 6) (se_v 7)) (blkOk_by (N := N_tables) (sc := (defScope st_tables)) (by decide +kernel)) (own := [("place", 10)]) (fun _ _ _ _ _ => pg_name (i := 10) sc.nd rfl (by first | exact Or.inl rfl | exact Or.inr rfl)) (fun _ _ _ _ _ => pts_yes) (fun _ _ _ _ _ => (se_op ox_add os_add (se_dg (hu_of hr) (se_v 3) (se_v 6) (se_v 10)) (se_dg (hu_of hr) (se_v 3) (se_op ox_add os_add (se_v 10) se_int) (se_v 7)))) (List.mem_singleton.mpr rfl)))
  (ss_cons (ss_dp (hu_of hr) (pv 3) (se_v 6) (se_v 7) (se_op ox_add os_add (se_v 8) (se_callB (ox_min rfl) os_min T.n_min (by decide +kernel) (sa_cons (se_v 9) sa_nil))))
  (ss_one (ss_dp (hu_of hr) (pv 4) (se_v 6) (se_v 7) (se_op ox_add os_add (se_v 6) (se_index (se_v 9) (sa_cons (se_callB (ox_min rfl) os_min T.n_min (by decide +kernel) (sa_cons (se_v 9) sa_nil)) sa_nil))))))))))))))
  (ss_one (ss_rt (se_tup (sa_cons (se_v 3) (sa_cons (se_v 4) sa_nil)))))))))
theorem sc_worths : FnScope N_worths ["keys", "hits", "misses"] (defScope st_worths) := ⟨rfl, rfl, rfl, by decide +kernel, rfl, by decide +kernel, by decide +kernel⟩
theorem k_worths (T : Tp K mg) : ∀ n, Kn P w K mg base (L2.CX P w) n "worths" .n (R_worths n) := by
  have sc := sc_worths
  refine kn_X (fs := fun n => F_worths (R_ask_weights n) (R_tables n)) T.d_worths sc (fun _ => rfl) (fun _ => rfl) fun n f hm ih cdv A outer s H E hr => ?_
  have g_ask_weights := k_ask_weights (P := P) (w := w) (base := base) T n
  have g_tables := k_tables (P := P) (w := w) (base := base) T n
  exact (ss_cons (ss_ex (se_call g_ask_weights hr (passes_call (takes_of rfl rfl rfl rfl) (fun _ _ _ _ h => h)) (sa_cons (se_v 0) (sa_cons (se_v 1) (sa_cons (se_v 2) sa_nil)))))
  (ss_cons (ss_as (ps_set (i := 3) sc.nd rfl (by first | exact Or.inl rfl | exact Or.inr rfl) (se_callB ox_len os_len T.n_len (by decide +kernel) (sa_cons (se_v 0) sa_nil))))
  (ss_cons (ss_as (ps_set (i := 4) sc.nd rfl (by first | exact Or.inl rfl | exact Or.inr rfl) (se_ix ix_seq os_ix (se_call g_tables hr pass0 (sa_cons (se_v 1) (sa_cons (se_v 2) sa_nil))) se_int (fun _ _ => rfl))))
  (ss_one (ss_rtN (sn_lc  rfl sc.nd (src_rng1 T.n_range (se_op ox_add os_add (se_v 3) se_int)) (blkOk_by (N := N_worths) (sc := (defScope st_worths)) (by decide +kernel)) (own := [("first", 5)]) (fun _ _ _ _ _ => pg_name (i := 5) sc.nd rfl (by first | exact Or.inl rfl | exact Or.inr rfl)) (fun _ _ _ _ _ => pts_yes) (fun _ _ _ _ _ => (so_lc  rfl sc.nd (src_rng2 T.n_range (se_v 5) (se_op ox_add os_add (se_v 3) se_int)) (blkOk_by (by kernel_rfl)) (own := [("last", 6)]) (fun _ _ _ _ _ => pg_name (i := 6) sc.nd rfl (by first | exact Or.inl rfl | exact Or.inr rfl)) (fun _ _ _ _ _ => pts_yes) (fun _ _ _ _ _ => (se_dg (hu_of hr) (se_v 4) (se_v 5) (se_v 6))) (List.mem_singleton.mpr rfl))) (List.mem_singleton.mpr rfl)))))))
theorem sc_least : FnScope N_least ["keys", "hits", "misses"] (defScope st_least) := ⟨rfl, rfl, rfl, by decide +kernel, rfl, by decide +kernel, by decide +kernel⟩
theorem k_least (T : Tp K mg) : ∀ n, Kn P w K mg base (L2.CX P w) n "least" .e (R_least n) := by
  have sc := sc_least
  refine kn_X (fs := fun n => F_least (R_ask_weights n) (R_tables n)) T.d_least sc (fun _ => rfl) (fun _ => rfl) fun n f hm ih cdv A outer s H E hr => ?_
  have g_ask_weights := k_ask_weights (P := P) (w := w) (base := base) T n
  have g_tables := k_tables (P := P) (w := w) (base := base) T n
  exact (ss_cons (ss_ex (se_call g_ask_weights hr (passes_call (takes_of rfl rfl rfl rfl) (fun _ _ _ _ h => h)) (sa_cons (se_v 0) (sa_cons (se_v 1) (sa_cons (se_v 2) sa_nil)))))
  (ss_one (ss_rt (se_dg (hu_of hr) (se_ix ix_seq os_ix (se_call g_tables hr pass0 (sa_cons (se_v 1) (sa_cons (se_v 2) sa_nil))) se_int (fun _ _ => rfl)) se_int (se_callB ox_len os_len T.n_len (by decide +kernel) (sa_cons (se_v 0) sa_nil))))))
theorem sc_roots : FnScope N_roots ["keys", "hits", "misses"] (defScope st_roots) := ⟨rfl, rfl, rfl, by decide +kernel, rfl, by decide +kernel, by decide +kernel⟩
theorem k_roots (T : Tp K mg) : ∀ n, Kn P w K mg base (L2.CX P w) n "roots" .n (R_roots n) := by
  have sc := sc_roots
  refine kn_X (fs := fun n => F_roots (R_ask_weights n) (R_tables n)) T.d_roots sc (fun _ => rfl) (fun _ => rfl) fun n f hm ih cdv A outer s H E hr => ?_
  have g_ask_weights := k_ask_weights (P := P) (w := w) (base := base) T n
  have g_tables := k_tables (P := P) (w := w) (base := base) T n
  exact (ss_cons (ss_ex (se_call g_ask_weights hr (passes_call (takes_of rfl rfl rfl rfl) (fun _ _ _ _ h => h)) (sa_cons (se_v 0) (sa_cons (se_v 1) (sa_cons (se_v 2) sa_nil)))))
  (ss_cons (ss_as (ps_set (i := 3) sc.nd rfl (by first | exact Or.inl rfl | exact Or.inr rfl) (se_callB ox_len os_len T.n_len (by decide +kernel) (sa_cons (se_v 0) sa_nil))))
  (ss_cons (ss_as (ps_set (i := 4) sc.nd rfl (by first | exact Or.inl rfl | exact Or.inr rfl) (se_ix ix_seq os_ix (se_call g_tables hr pass0 (sa_cons (se_v 1) (sa_cons (se_v 2) sa_nil))) se_int (fun _ _ => rfl))))
  (ss_one (ss_rtN (sn_lc  rfl sc.nd (src_rng1 T.n_range (se_v 3)) (blkOk_by (N := N_roots) (sc := (defScope st_roots)) (by decide +kernel)) (own := [("first", 5)]) (fun _ _ _ _ _ => pg_name (i := 5) sc.nd rfl (by first | exact Or.inl rfl | exact Or.inr rfl)) (fun _ _ _ _ _ => pts_yes) (fun _ _ _ _ _ => (so_lc  rfl sc.nd (src_rng2 T.n_range (se_op ox_add os_add (se_v 5) se_int) (se_op ox_add os_add (se_v 3) se_int)) (blkOk_by (by kernel_rfl)) (own := [("last", 6)]) (fun _ _ _ _ _ => pg_name (i := 6) sc.nd rfl (by first | exact Or.inl rfl | exact Or.inr rfl)) (fun _ _ _ _ _ => pts_yes) (fun _ _ _ _ _ => (se_dg (hu_of hr) (se_v 4) (se_v 5) (se_v 6))) (List.mem_singleton.mpr rfl))) (List.mem_singleton.mpr rfl)))))))
theorem sc_built : FnScope N_built ["keys", "root", "first", "last"] (defScope st_built) := ⟨rfl, rfl, rfl, by decide +kernel, rfl, by decide +kernel, by decide +kernel⟩
theorem k_built (T : Tp K mg) : ∀ n, Kn P w K mg base CX0 n "built" .e (R_built n) := by
  have sc := sc_built
  refine kn_0 (fs := fun n => F_built (R_built n)) T.d_built sc (fun _ => rfl) (fun _ => rfl) fun n f hm ih cdv A outer s H E hr => ?_
  exact (ss_cons (ss_if (sb_cmp (ox_eq (Room.u64 hr)) os_eq (se_v 2) (se_v 3) (nomark _)) (ss_one (ss_rt se_non)) ss_nil)
  (ss_cons (ss_as (ps_set (i := 4) sc.nd rfl (by first | exact Or.inl rfl | exact Or.inr rfl) (se_dg (hu_of hr) (se_v 1) (se_v 2) (se_v 3))))
  (ss_one (ss_rt (se_tup (sa_cons (se_ix ix_seq os_ix (se_v 0) (se_v 4) (fun _ _ => rfl)) (sa_cons (se_call ih hr pass0 (sa_cons (se_v 0) (sa_cons (se_v 1) (sa_cons (se_v 2) (sa_cons (se_v 4) sa_nil))))) (sa_cons (se_call ih hr pass0 (sa_cons (se_v 0) (sa_cons (se_v 1) (sa_cons (se_op ox_add os_add (se_v 4) se_int) (sa_cons (se_v 3) sa_nil))))) sa_nil))))))))
theorem sc_best : FnScope N_best ["keys", "hits", "misses"] (defScope st_best) := ⟨rfl, rfl, rfl, by decide +kernel, rfl, by decide +kernel, by decide +kernel⟩
theorem k_best (T : Tp K mg) : ∀ n, Kn P w K mg base (L2.CX P w) n "best" .e (R_best n) := by
  have sc := sc_best
  refine kn_X (fs := fun n => F_best (R_ask_weights n) (R_built n) (R_tables n)) T.d_best sc (fun _ => rfl) (fun _ => rfl) fun n f hm ih cdv A outer s H E hr => ?_
  have g_ask_weights := k_ask_weights (P := P) (w := w) (base := base) T n
  have g_built := k_built (P := P) (w := w) (base := base) T n
  have g_tables := k_tables (P := P) (w := w) (base := base) T n
  exact (ss_cons (ss_ex (se_call g_ask_weights hr (passes_call (takes_of rfl rfl rfl rfl) (fun _ _ _ _ h => h)) (sa_cons (se_v 0) (sa_cons (se_v 1) (sa_cons (se_v 2) sa_nil)))))
  (ss_one (ss_rt (se_call g_built hr pass0 (sa_cons (se_v 0) (sa_cons (se_ix ix_seq os_ix (se_call g_tables hr pass0 (sa_cons (se_v 1) (sa_cons (se_v 2) sa_nil))) se_int (fun _ _ => rfl)) (sa_cons se_int (sa_cons (se_callB ox_len os_len T.n_len (by decide +kernel) (sa_cons (se_v 0) sa_nil)) sa_nil))))))))
theorem sc_halved : FnScope N_halved ["keys"] (defScope st_halved) := ⟨rfl, rfl, rfl, by decide +kernel, rfl, by decide +kernel, by decide +kernel⟩
theorem k_halved (T : Tp K mg) : ∀ n, Kn P w K mg base CX0 n "halved" .e (R_halved n) := by
  have sc := sc_halved
  refine kn_0 (fs := fun n => F_halved (R_halved n)) T.d_halved sc (fun _ => rfl) (fun _ => rfl) fun n f hm ih cdv A outer s H E hr => ?_
  exact (ss_cons (ss_if (sb_cmp (ox_eq (Room.u64 hr)) os_eq (se_callB ox_len os_len T.n_len (by decide +kernel) (sa_cons (se_v 0) sa_nil)) se_int (nomark _)) (ss_one (ss_rt se_non)) ss_nil)
  (ss_cons (ss_as (ps_set (i := 1) sc.nd rfl (by first | exact Or.inl rfl | exact Or.inr rfl) (se_op op_fdiv os_div (se_callB ox_len os_len T.n_len (by decide +kernel) (sa_cons (se_v 0) sa_nil)) se_int)))
  (ss_one (ss_rt (se_tup (sa_cons (se_ix ix_seq os_ix (se_v 0) (se_v 1) (fun _ _ => rfl)) (sa_cons (se_call ih hr pass0 (sa_cons (SO.e (so_slL (se_v 0) so_n (so_s (se_v 1)))) sa_nil)) (sa_cons (se_call ih hr pass0 (sa_cons (SO.e (so_slL (se_v 0) (so_s (se_op ox_add os_add (se_v 1) se_int)) so_n)) sa_nil)) sa_nil))))))))
theorem sc_even : FnScope N_even ["keys"] (defScope st_even) := ⟨rfl, rfl, rfl, by decide +kernel, rfl, by decide +kernel, by decide +kernel⟩
theorem k_even (T : Tp K mg) : ∀ n, Kn P w K mg base (L2.CX P w) n "even" .e (R_even n) := by
  have sc := sc_even
  refine kn_X (fs := fun n => F_even (R_ask_keys n) (R_halved n)) T.d_even sc (fun _ => rfl) (fun _ => rfl) fun n f hm ih cdv A outer s H E hr => ?_
  have g_ask_keys := k_ask_keys (P := P) (w := w) (base := base) T n
  have g_halved := k_halved (P := P) (w := w) (base := base) T n
  exact (ss_cons (ss_ex (se_call g_ask_keys hr (passes_call (takes_of rfl rfl rfl rfl) (fun _ _ _ _ h => h)) (sa_cons (se_v 0) sa_nil)))
  (ss_one (ss_rt (se_call g_halved hr pass0 (sa_cons (SO.e (so_callT call_list_of oo_list T.n_list (by decide +kernel) (sa_cons (se_v 0) sa_nil))) sa_nil)))))
theorem sc_height : FnScope N_height ["tree"] (defScope st_height) := ⟨rfl, rfl, rfl, by decide +kernel, rfl, by decide +kernel, by decide +kernel⟩
theorem k_height (T : Tp K mg) : ∀ n, Kn P w K mg base CX0 n "height" .e (R_height n) := by
  have sc := sc_height
  refine kn_0 (fs := fun n => F_height (R_height n)) T.d_height sc (fun _ => rfl) (fun _ => rfl) fun n f hm ih cdv A outer s H E hr => ?_
  exact (ss_cons (ss_if (sb_cmp op_isN os_is (se_v 0) se_non (nomark _)) (ss_one (ss_rt se_int)) ss_nil)
  (ss_one (ss_rt (se_op ox_add os_add se_int (se_callB (call_max2 rfl) os_max T.n_max (by decide +kernel) (sa_cons (se_call ih hr pass0 (sa_cons (se_ix ix_seq os_ix (se_v 0) se_int (fun _ _ => rfl)) sa_nil)) (sa_cons (se_call ih hr pass0 (sa_cons (se_ix ix_seq os_ix (se_v 0) se_int (fun _ _ => rfl)) sa_nil)) sa_nil)))))))
theorem sc_most_steps : FnScope N_most_steps ["keys", "tree"] (defScope st_most_steps) := ⟨rfl, rfl, rfl, by decide +kernel, rfl, by decide +kernel, by decide +kernel⟩
theorem k_most_steps (T : Tp K mg) : ∀ n, Kn P w K mg base (L2.CX P w) n "most_steps" .e (R_most_steps n) := by
  have sc := sc_most_steps
  refine kn_X (fs := fun n => F_most_steps (R_ask_keys n) (R_ask_tree n) (R_height n)) T.d_most_steps sc (fun _ => rfl) (fun _ => rfl) fun n f hm ih cdv A outer s H E hr => ?_
  have g_ask_keys := k_ask_keys (P := P) (w := w) (base := base) T n
  have g_ask_tree := k_ask_tree (P := P) (w := w) (base := base) T n
  have g_height := k_height (P := P) (w := w) (base := base) T n
  exact (ss_cons (ss_ex (se_call g_ask_keys hr (passes_call (takes_of rfl rfl rfl rfl) (fun _ _ _ _ h => h)) (sa_cons (se_v 0) sa_nil)))
  (ss_cons (ss_ex (se_call g_ask_tree hr (passes_call (takes_of rfl rfl rfl rfl) (fun _ _ _ _ h => h)) (sa_cons (se_v 0) (sa_cons (se_v 1) sa_nil))))
  (ss_one (ss_rt (se_call g_height hr pass0 (sa_cons (se_v 1) sa_nil))))))
theorem sc_lifted_left : FnScope N_lifted_left ["tree"] (defScope st_lifted_left) := ⟨rfl, rfl, rfl, by decide +kernel, rfl, by decide +kernel, by decide +kernel⟩
theorem k_lifted_left (T : Tp K mg) : ∀ n, Kn P w K mg base CX0 n "lifted_left" .e (R_lifted_left n) := by
  have sc := sc_lifted_left
  refine kn_0 (fs := fun n => F_lifted_left) T.d_lifted_left sc (fun _ => rfl) (fun _ => rfl) fun n f hm ih cdv A outer s H E hr => ?_
  exact (ss_cons (ss_as (ps_set (i := 1) sc.nd rfl (by first | exact Or.inl rfl | exact Or.inr rfl) (se_ix ix_seq os_ix (se_v 0) se_int (fun _ _ => rfl))))
  (ss_one (ss_rt (se_tup (sa_cons (se_ix ix_seq os_ix (se_v 1) se_int (fun _ _ => rfl)) (sa_cons (se_ix ix_seq os_ix (se_v 1) se_int (fun _ _ => rfl)) (sa_cons (se_tup (sa_cons (se_ix ix_seq os_ix (se_v 0) se_int (fun _ _ => rfl)) (sa_cons (se_ix ix_seq os_ix (se_v 1) se_int (fun _ _ => rfl)) (sa_cons (se_ix ix_seq os_ix (se_v 0) se_int (fun _ _ => rfl)) sa_nil)))) sa_nil)))))))
theorem sc_lifted_right : FnScope N_lifted_right ["tree"] (defScope st_lifted_right) := ⟨rfl, rfl, rfl, by decide +kernel, rfl, by decide +kernel, by decide +kernel⟩
theorem k_lifted_right (T : Tp K mg) : ∀ n, Kn P w K mg base CX0 n "lifted_right" .e (R_lifted_right n) := by
  have sc := sc_lifted_right
  refine kn_0 (fs := fun n => F_lifted_right) T.d_lifted_right sc (fun _ => rfl) (fun _ => rfl) fun n f hm ih cdv A outer s H E hr => ?_
  exact (ss_cons (ss_as (ps_set (i := 1) sc.nd rfl (by first | exact Or.inl rfl | exact Or.inr rfl) (se_ix ix_seq os_ix (se_v 0) se_int (fun _ _ => rfl))))
  (ss_one (ss_rt (se_tup (sa_cons (se_ix ix_seq os_ix (se_v 1) se_int (fun _ _ => rfl)) (sa_cons (se_tup (sa_cons (se_ix ix_seq os_ix (se_v 0) se_int (fun _ _ => rfl)) (sa_cons (se_ix ix_seq os_ix (se_v 0) se_int (fun _ _ => rfl)) (sa_cons (se_ix ix_seq os_ix (se_v 1) se_int (fun _ _ => rfl)) sa_nil)))) (sa_cons (se_ix ix_seq os_ix (se_v 1) se_int (fun _ _ => rfl)) sa_nil)))))))
theorem sc_up : FnScope N_up ["tree", "word"] (defScope st_up) := ⟨rfl, rfl, rfl, by decide +kernel, rfl, by decide +kernel, by decide +kernel⟩
theorem k_up (T : Tp K mg) : ∀ n, Kn P w K mg base CX0 n "up" .e (R_up n) := by
  have sc := sc_up
  refine kn_0 (fs := fun n => F_up (R_lifted_right n) (R_up n) (R_lifted_left n)) T.d_up sc (fun _ => rfl) (fun _ => rfl) fun n f hm ih cdv A outer s H E hr => ?_
  have g_lifted_right := k_lifted_right (P := P) (w := w) (base := base) T n
  have g_lifted_left := k_lifted_left (P := P) (w := w) (base := base) T n
  exact (ss_cons (ss_if (sb_cmp ox_lt os_lt (se_v 1) (se_ix ix_seq os_ix (se_v 0) se_int (fun _ _ => rfl)) (nomark _)) (ss_cons (ss_if (sb_cmp (ox_eq (Room.u64 hr)) os_eq (se_ix ix_seq os_ix (se_ix ix_seq os_ix (se_v 0) se_int (fun _ _ => rfl)) se_int (fun _ _ => rfl)) (se_v 1) (nomark _)) (ss_one (ss_rt (se_call g_lifted_left hr pass0 (sa_cons (se_v 0) sa_nil)))) ss_nil)
  (ss_one (ss_rt (se_tup (sa_cons (se_ix ix_seq os_ix (se_v 0) se_int (fun _ _ => rfl)) (sa_cons (se_call ih hr pass0 (sa_cons (se_ix ix_seq os_ix (se_v 0) se_int (fun _ _ => rfl)) (sa_cons (se_v 1) sa_nil))) (sa_cons (se_ix ix_seq os_ix (se_v 0) se_int (fun _ _ => rfl)) sa_nil))))))) ss_nil)
  (ss_cons (ss_if (sb_cmp (ox_eq (Room.u64 hr)) os_eq (se_ix ix_seq os_ix (se_ix ix_seq os_ix (se_v 0) se_int (fun _ _ => rfl)) se_int (fun _ _ => rfl)) (se_v 1) (nomark _)) (ss_one (ss_rt (se_call g_lifted_right hr pass0 (sa_cons (se_v 0) sa_nil)))) ss_nil)
  (ss_one (ss_rt (se_tup (sa_cons (se_ix ix_seq os_ix (se_v 0) se_int (fun _ _ => rfl)) (sa_cons (se_ix ix_seq os_ix (se_v 0) se_int (fun _ _ => rfl)) (sa_cons (se_call ih hr pass0 (sa_cons (se_ix ix_seq os_ix (se_v 0) se_int (fun _ _ => rfl)) (sa_cons (se_v 1) sa_nil))) sa_nil))))))))
theorem sc_turned : FnScope N_turned ["keys", "tree", "word"] (defScope st_turned) := ⟨rfl, rfl, rfl, by decide +kernel, rfl, by decide +kernel, by decide +kernel⟩
theorem k_turned (T : Tp K mg) : ∀ n, Kn P w K mg base (L2.CX P w) n "turned" .e (R_turned n) := by
  have sc := sc_turned
  obtain ⟨CP_AtRoot, gP_AtRoot, xP_AtRoot, kP_AtRoot, bP_AtRoot, tP_AtRoot⟩ := T.x_AtRoot.ex
  obtain ⟨CP_NoKey, gP_NoKey, xP_NoKey, kP_NoKey, bP_NoKey, tP_NoKey⟩ := T.x_NoKey.ex
  refine kn_X (fs := fun n => F_turned (R_ask_keys n) (R_ask_tree n) (R_up n)) T.d_turned sc (fun _ => rfl) (fun _ => rfl) fun n f hm ih cdv A outer s H E hr => ?_
  have g_ask_keys := k_ask_keys (P := P) (w := w) (base := base) T n
  have g_ask_tree := k_ask_tree (P := P) (w := w) (base := base) T n
  have g_up := k_up (P := P) (w := w) (base := base) T n
  exact (ss_cons (ss_ex (se_call g_ask_keys hr (passes_call (takes_of rfl rfl rfl rfl) (fun _ _ _ _ h => h)) (sa_cons (se_v 0) sa_nil)))
  (ss_cons (ss_ex (se_call g_ask_tree hr (passes_call (takes_of rfl rfl rfl rfl) (fun _ _ _ _ h => h)) (sa_cons (se_v 0) (sa_cons (se_v 1) sa_nil))))
  (ss_cons (ss_if (sb_cmp op_notIn_seq os_ni (se_v 2) (se_v 0) (by with_unfolding_all rfl)) (ss_one (ss_raise rfl (takes_of rfl rfl rfl rfl) gP_NoKey (pmk_own PySem.F.excBase_ValueError xP_NoKey gP_NoKey kP_NoKey (raises_own bP_NoKey tP_NoKey) rfl))) ss_nil)
  (ss_cons (ss_if (sb_cmp (ox_eq (Room.u64 hr)) os_eq (se_ix ix_seq os_ix (se_v 1) se_int (fun _ _ => rfl)) (se_v 2) (nomark _)) (ss_one (ss_raise rfl (takes_of rfl rfl rfl rfl) gP_AtRoot (pmk_own PySem.F.excBase_ValueError xP_AtRoot gP_AtRoot kP_AtRoot (raises_own bP_AtRoot tP_AtRoot) rfl))) ss_nil)
  (ss_one (ss_rt (se_call g_up hr pass0 (sa_cons (se_v 1) (sa_cons (se_v 2) sa_nil)))))))))
theorem sc_ways : FnScope N_ways ["one", "other"] (defScope st_ways) := ⟨rfl, rfl, rfl, by decide +kernel, rfl, by decide +kernel, by decide +kernel⟩
theorem k_ways (T : Tp K mg) : ∀ n, Kn P w K mg base CX0 n "ways" .o (R_ways n) := by
  have sc := sc_ways
  refine kn_0 (fs := fun n => F_ways (R_up n) (R_ways n)) T.d_ways sc (fun _ => rfl) (fun _ => rfl) fun n f hm ih cdv A outer s H E hr => ?_
  have g_up := k_up (P := P) (w := w) (base := base) T n
  exact (ss_cons (ss_if (sb_cmp op_isN os_is (se_v 0) se_non (nomark _)) (ss_one (ss_rtO (so_lst sa_nil))) ss_nil)
  (ss_cons (ss_nw (ps_set (i := 2) sc.nd rfl (by first | exact Or.inl rfl | exact Or.inr rfl) (so_lst sa_nil)))
  (ss_cons (ss_wh 1000 PassesOwn.never (sb_cmp (ox_ne (Room.u64 hr)) os_ne (se_ix ix_seq os_ix (se_v 0) se_int (fun _ _ => rfl)) (se_ix ix_seq os_ix (se_v 1) se_int (fun _ _ => rfl)) (nomark _)) (ss_cons (ss_ap (pv 2) (se_ix ix_seq os_ix (se_v 1) se_int (fun _ _ => rfl)))
  (ss_one (ss_as (ps_set (i := 0) sc.nd rfl (by first | exact Or.inl rfl | exact Or.inr rfl) (se_call g_up hr pass0 (sa_cons (se_v 0) (sa_cons (se_ix ix_seq os_ix (se_v 1) se_int (fun _ _ => rfl)) sa_nil))))))))
  (ss_one (ss_rtO (so_op ox_cat oo_cat (SO.e (so_op ox_cat oo_cat (se_v 2) (SO.e (so_call ih hr pass0 (sa_cons (se_ix ix_seq os_ix (se_v 0) se_int (fun _ _ => rfl)) (sa_cons (se_ix ix_seq os_ix (se_v 1) se_int (fun _ _ => rfl)) sa_nil)))))) (SO.e (so_call ih hr pass0 (sa_cons (se_ix ix_seq os_ix (se_v 0) se_int (fun _ _ => rfl)) (sa_cons (se_ix ix_seq os_ix (se_v 1) se_int (fun _ _ => rfl)) sa_nil))))))))))
theorem sc_turns : FnScope N_turns ["keys", "one", "other"] (defScope st_turns) := ⟨rfl, rfl, rfl, by decide +kernel, rfl, by decide +kernel, by decide +kernel⟩
theorem k_turns (T : Tp K mg) : ∀ n, Kn P w K mg base (L2.CX P w) n "turns" .o (R_turns n) := by
  have sc := sc_turns
  refine kn_X (fs := fun n => F_turns (R_ask_keys n) (R_ask_tree n) (R_ways n)) T.d_turns sc (fun _ => rfl) (fun _ => rfl) fun n f hm ih cdv A outer s H E hr => ?_
  have g_ask_keys := k_ask_keys (P := P) (w := w) (base := base) T n
  have g_ask_tree := k_ask_tree (P := P) (w := w) (base := base) T n
  have g_ways := k_ways (P := P) (w := w) (base := base) T n
  exact (ss_cons (ss_ex (se_call g_ask_keys hr (passes_call (takes_of rfl rfl rfl rfl) (fun _ _ _ _ h => h)) (sa_cons (se_v 0) sa_nil)))
  (ss_cons (ss_ex (se_call g_ask_tree hr (passes_call (takes_of rfl rfl rfl rfl) (fun _ _ _ _ h => h)) (sa_cons (se_v 0) (sa_cons (se_v 1) sa_nil))))
  (ss_cons (ss_ex (se_call g_ask_tree hr (passes_call (takes_of rfl rfl rfl rfl) (fun _ _ _ _ h => h)) (sa_cons (se_v 0) (sa_cons (se_v 2) sa_nil))))
  (ss_one (ss_rtO (so_call g_ways hr pass0 (sa_cons (se_v 1) (sa_cons (se_v 2) sa_nil))))))))
theorem sc_written : FnScope N_written ["tree"] (defScope st_written) := ⟨rfl, rfl, rfl, by decide +kernel, rfl, by decide +kernel, by decide +kernel⟩
theorem k_written (T : Tp K mg) : ∀ n, Kn P w K mg base CX0 n "written" .e (R_written n) := by
  have sc := sc_written
  refine kn_0 (fs := fun n => F_written (R_written n)) T.d_written sc (fun _ => rfl) (fun _ => rfl) fun n f hm ih cdv A outer s H E hr => ?_
  exact (ss_cons (ss_if (sb_cmp op_isN os_is (se_v 0) se_non (nomark _)) (ss_one (ss_rt se_str)) ss_nil)
  (ss_one (ss_rt (se_op ox_add os_add (se_op ox_add os_add (se_op ox_add os_add (se_op ox_add os_add (se_op ox_add os_add (se_op ox_add os_add se_str (se_call ih hr pass0 (sa_cons (se_ix ix_seq os_ix (se_v 0) se_int (fun _ _ => rfl)) sa_nil))) se_str) (se_ix ix_seq os_ix (se_v 0) se_int (fun _ _ => rfl))) se_str) (se_call ih hr pass0 (sa_cons (se_ix ix_seq os_ix (se_v 0) se_int (fun _ _ => rfl)) sa_nil))) se_str))))
theorem sc_shown : FnScope N_shown ["keys", "tree"] (defScope st_shown) := ⟨rfl, rfl, rfl, by decide +kernel, rfl, by decide +kernel, by decide +kernel⟩
theorem k_shown (T : Tp K mg) : ∀ n, Kn P w K mg base (L2.CX P w) n "shown" .e (R_shown n) := by
  have sc := sc_shown
  refine kn_X (fs := fun n => F_shown (R_ask_keys n) (R_ask_tree n) (R_written n)) T.d_shown sc (fun _ => rfl) (fun _ => rfl) fun n f hm ih cdv A outer s H E hr => ?_
  have g_ask_keys := k_ask_keys (P := P) (w := w) (base := base) T n
  have g_ask_tree := k_ask_tree (P := P) (w := w) (base := base) T n
  have g_written := k_written (P := P) (w := w) (base := base) T n
  exact (ss_cons (ss_ex (se_call g_ask_keys hr (passes_call (takes_of rfl rfl rfl rfl) (fun _ _ _ _ h => h)) (sa_cons (se_v 0) sa_nil)))
  (ss_cons (ss_ex (se_call g_ask_tree hr (passes_call (takes_of rfl rfl rfl rfl) (fun _ _ _ _ h => h)) (sa_cons (se_v 0) (sa_cons (se_v 1) sa_nil))))
  (ss_one (ss_rt (se_call g_written hr pass0 (sa_cons (se_v 1) sa_nil))))))
theorem sc__law_bad_keys : FnScope N__law_bad_keys ["keys", "cell"] (defScope st__law_bad_keys) := ⟨rfl, rfl, rfl, by decide +kernel, rfl, by decide +kernel, by decide +kernel⟩
theorem k__law_bad_keys (T : Tp K mg) : ∀ n, Kn P w K mg base CX0 n "_law_bad_keys" .e (R__law_bad_keys n) := by
  have sc := sc__law_bad_keys
  refine kn_0 (fs := fun n => F__law_bad_keys) T.d__law_bad_keys sc (fun _ => rfl) (fun _ => rfl) fun n f hm ih cdv A outer s H E hr => ?_
  exact (ss_cons (ss_as (ps_set (i := 2) sc.nd rfl (by first | exact Or.inl rfl | exact Or.inr rfl) (se_op op_mod os_mod (se_op op_fdiv os_div (se_v 1) se_int) (se_callB ox_len os_len T.n_len (by decide +kernel) (sa_cons (se_v 0) sa_nil)))))
  (ss_cons (ss_as (ps_set (i := 3) sc.nd rfl (by first | exact Or.inl rfl | exact Or.inr rfl) (se_op op_mod os_mod (se_v 1) se_int)))
  (ss_cons (ss_if (PW.pt (sw_and (sb_cmp (ox_eq (Room.u64 hr)) os_eq (se_v 3) se_int (nomark _)) (sw_one (sb_cmp ox_gt os_gt (se_callB ox_len os_len T.n_len (by decide +kernel) (sa_cons (se_v 0) sa_nil)) se_int (nomark _)) (by first | exact Or.inl rfl | exact Or.inr rfl)))) (ss_one (ss_rt (SO.e (so_lrev rfl T.n_list T.n_reversed (se_v 0))))) ss_nil)
  (ss_cons (ss_if (sb_cmp (ox_eq (Room.u64 hr)) os_eq (se_v 3) se_int (nomark _)) (ss_one (ss_rt (SO.e (so_op ox_cat oo_cat (SO.e (so_slL (se_v 0) so_n (so_s (se_op ox_add os_add (se_v 2) se_int)))) (SO.e (so_slL (se_v 0) (so_s (se_v 2)) so_n)))))) ss_nil)
  (ss_cons (ss_if (PW.pt (sw_and (sb_cmp (ox_eq (Room.u64 hr)) os_eq (se_v 3) se_int (nomark _)) (sw_one (sb_cmp ox_gt os_gt (se_v 2) se_int (nomark _)) (by first | exact Or.inl rfl | exact Or.inr rfl)))) (ss_one (ss_rt (SO.e (so_op ox_cat oo_cat (SO.e (so_op ox_cat oo_cat (SO.e (so_slL (se_v 0) so_n (so_s (se_op op_sub os_sub (se_v 2) se_int)))) (SO.e (so_lst (sa_cons (se_ix ix_seq os_ix (se_v 0) (se_v 2) (fun _ _ => rfl)) (sa_cons (se_ix ix_seq os_ix (se_v 0) (se_op op_sub os_sub (se_v 2) se_int) (fun _ _ => rfl)) sa_nil)))))) (SO.e (so_slL (se_v 0) (so_s (se_op ox_add os_add (se_v 2) se_int)) so_n)))))) ss_nil)
  (ss_cons (ss_if (sb_cmp (ox_eq (Room.u64 hr)) os_eq (se_v 3) se_int (nomark _)) (ss_one (ss_rt (SO.e (so_op ox_cat oo_cat (se_v 0) (SO.e (so_lc  rfl sc.nd (src_rng1 T.n_range (se_op ox_add os_add (se_op op_sub os_sub se_int (se_callB ox_len os_len T.n_len (by decide +kernel) (sa_cons (se_v 0) sa_nil))) (se_op op_mod os_mod (se_op op_fdiv os_div (se_v 1) se_int) se_int))) (blkOk_by (N := N__law_bad_keys) (sc := (defScope st__law_bad_keys)) (by decide +kernel)) (own := [("k", 5)]) (fun _ _ _ _ _ => pg_name (i := 5) sc.nd rfl (by first | exact Or.inl rfl | exact Or.inr rfl)) (fun _ _ _ _ _ => pts_yes) (fun _ _ _ _ _ => (se_op ox_add os_add se_str (se_ix ix_seq os_ix se_str (se_v 5) (fun _ _ => rfl)))) (List.mem_singleton.mpr rfl))))))) ss_nil)
  (ss_cons (ss_as (ps_set (i := 4) sc.nd rfl (by first | exact Or.inl rfl | exact Or.inr rfl) (se_ix ix_seq os_ix (SO.e (so_lst (sa_cons se_str (sa_cons se_str (sa_cons se_str (sa_cons se_str (sa_cons se_str (sa_cons se_str (sa_cons se_str sa_nil))))))))) (se_op op_mod os_mod (se_op op_fdiv os_div (se_v 1) se_int) se_int) (fun _ _ => rfl))))
  (ss_one (ss_rt (SO.e (so_op ox_cat oo_cat (SO.e (so_op ox_cat oo_cat (SO.e (so_slL (se_v 0) so_n (so_s (se_v 2)))) (SO.e (so_lst (sa_cons (se_v 4) sa_nil))))) (SO.e (so_slL (se_v 0) (so_s (se_op ox_add os_add (se_v 2) se_int)) so_n)))))))))))))
theorem sc__law_bad_weights : FnScope N__law_bad_weights ["rows", "cell"] (defScope st__law_bad_weights) := ⟨rfl, rfl, rfl, by decide +kernel, rfl, by decide +kernel, by decide +kernel⟩
theorem k__law_bad_weights (T : Tp K mg) : ∀ n, Kn P w K mg base CX0 n "_law_bad_weights" .e (R__law_bad_weights n) := by
  have sc := sc__law_bad_weights
  refine kn_0 (fs := fun n => F__law_bad_weights) T.d__law_bad_weights sc (fun _ => rfl) (fun _ => rfl) fun n f hm ih cdv A outer s H E hr => ?_
  exact (ss_cons (ss_as (ps_set (i := 2) sc.nd rfl (by first | exact Or.inl rfl | exact Or.inr rfl) (se_op op_mod os_mod (se_op op_fdiv os_div (se_v 1) se_int) (se_callB ox_len os_len T.n_len (by decide +kernel) (sa_cons (se_ix ix_seq os_ix (se_v 0) (se_op op_mod os_mod (se_v 1) se_int) (fun _ _ => rfl)) sa_nil)))))
  (ss_cons (ss_nn (ps_set (i := 3) sc.nd rfl (by first | exact Or.inl rfl | exact Or.inr rfl) (sn_lst (san_cons (so_callT call_list_of oo_list T.n_list (by decide +kernel) (sa_cons (se_ix ix_seq os_ix (se_v 0) se_int (fun _ _ => rfl)) sa_nil)) (san_cons (so_callT call_list_of oo_list T.n_list (by decide +kernel) (sa_cons (se_ix ix_seq os_ix (se_v 0) se_int (fun _ _ => rfl)) sa_nil)) san_nil)))))
  (ss_cons (ss_if (sb_cmp (ox_eq (Room.u64 hr)) os_eq (se_op op_mod os_mod (se_op op_fdiv os_div (se_v 1) se_int) se_int) se_int (nomark _)) (ss_cons (ss_if (sb_cmp (ox_eq (Room.u64 hr)) os_eq (se_op op_mod os_mod (se_v 1) se_int) se_int (nomark _)) (ss_one (ss_rt (SO.e (so_lst (sa_cons (SO.e (so_op ox_cat oo_cat (se_ix ix_seq os_ix (se_v 3) se_int (fun _ _ => rfl)) (SO.e (so_lst (sa_cons se_int sa_nil))))) (sa_cons (SO.e (so_op ox_cat oo_cat (se_ix ix_seq os_ix (se_v 3) se_int (fun _ _ => rfl)) (SO.e (so_lst (sa_cons se_int sa_nil))))) sa_nil)))))) ss_nil)
  (ss_one (ss_rt (SO.e (so_lst (sa_cons (SO.e (so_slL (se_ix ix_seq os_ix (se_v 3) se_int (fun _ _ => rfl)) (so_s se_int) so_n)) (sa_cons (SO.e (so_slL (se_ix ix_seq os_ix (se_v 3) se_int (fun _ _ => rfl)) (so_s se_int) so_n)) sa_nil))))))) ss_nil)
  (ss_cons (ss_if (sb_cmp (ox_eq (Room.u64 hr)) os_eq (se_op op_mod os_mod (se_op op_fdiv os_div (se_v 1) se_int) se_int) se_int (nomark _)) (ss_one (ss_nap (pv 3) (se_op op_mod os_mod (se_v 1) se_int) se_int (fun _ _ => rfl))) (ss_one (ss_if (sb_cmp (ox_eq (Room.u64 hr)) os_eq (se_op op_mod os_mod (se_op op_fdiv os_div (se_v 1) se_int) se_int) se_int (nomark _)) (ss_one (ss_npop (pv 3) (se_op op_mod os_mod (se_v 1) se_int) (fun _ _ => rfl))) (ss_cons (ss_as (ps_set (i := 4) sc.nd rfl (by first | exact Or.inl rfl | exact Or.inr rfl) (se_op op_mod os_mod (se_op op_fdiv os_div (se_v 1) se_int) (se_op op_pow os_pow se_int se_int))))
  (ss_one (ss_nit (pv 3) (se_op op_mod os_mod (se_v 1) se_int) (se_v 2) (se_ix ix_seq os_ix (SO.e (so_lst (sa_cons (se_op op_sub os_sub (se_neg se_int) (se_v 4)) (sa_cons (se_op ox_add os_add se_int (se_v 4)) sa_nil)))) (se_op op_mod os_mod (se_op op_fdiv os_div (se_v 1) se_int) se_int) (fun _ _ => rfl)) (fun _ _ => rfl)))))))
  (ss_one (ss_rt (se_v 3)))))))
theorem sc__law_bad_tree : FnScope N__law_bad_tree ["tree", "cell", "keys"] (defScope st__law_bad_tree) := ⟨rfl, rfl, rfl, by decide +kernel, rfl, by decide +kernel, by decide +kernel⟩
theorem k__law_bad_tree (T : Tp K mg) : ∀ n, Kn P w K mg base CX0 n "_law_bad_tree" .e (R__law_bad_tree n) := by
  have sc := sc__law_bad_tree
  refine kn_0 (fs := fun n => F__law_bad_tree (R__law_mirrored n) (R__law_tree n)) T.d__law_bad_tree sc (fun _ => rfl) (fun _ => rfl) fun n f hm ih cdv A outer s H E hr => ?_
  have g__law_mirrored := k__law_mirrored (P := P) (w := w) (base := base) T n
  have g__law_tree := k__law_tree (P := P) (w := w) (base := base) T n
  exact (ss_cons (ss_if (PW.pt (sw_and (sb_cmp (ox_eq (Room.u64 hr)) os_eq (se_op op_mod os_mod (se_op op_fdiv os_div (se_v 1) se_int) se_int) se_int (nomark _)) (sw_one (sb_cmp ox_gt os_gt (se_callB ox_len os_len T.n_len (by decide +kernel) (sa_cons (se_v 2) sa_nil)) se_int (nomark _)) (by first | exact Or.inl rfl | exact Or.inr rfl)))) (ss_one (ss_rt (se_call g__law_mirrored hr pass0 (sa_cons (se_v 0) sa_nil)))) ss_nil)
  (ss_cons (ss_if (PW.pt (sw_and (sb_cmp (ox_eq (Room.u64 hr)) os_eq (se_op op_mod os_mod (se_op op_fdiv os_div (se_v 1) se_int) se_int) se_int (nomark _)) (sw_one (sb_cmp ox_gt os_gt (se_callB ox_len os_len T.n_len (by decide +kernel) (sa_cons (se_v 2) sa_nil)) se_int (nomark _)) (by first | exact Or.inl rfl | exact Or.inr rfl)))) (ss_cons (ss_as (ps_set (i := 3) sc.nd rfl (by first | exact Or.inl rfl | exact Or.inr rfl) (se_op op_mod os_mod (se_op op_fdiv os_div (se_v 1) se_int) (se_op op_sub os_sub (se_callB ox_len os_len T.n_len (by decide +kernel) (sa_cons (se_v 2) sa_nil)) se_int))))
  (ss_cons (ss_as (ps_set (i := 4) sc.nd rfl (by first | exact Or.inl rfl | exact Or.inr rfl) (SO.e (so_op ox_cat oo_cat (SO.e (so_op ox_cat oo_cat (SO.e (so_slL (se_v 2) so_n (so_s (se_v 3)))) (SO.e (so_lst (sa_cons (se_ix ix_seq os_ix (se_v 2) (se_op ox_add os_add (se_v 3) se_int) (fun _ _ => rfl)) (sa_cons (se_ix ix_seq os_ix (se_v 2) (se_v 3) (fun _ _ => rfl)) sa_nil)))))) (SO.e (so_slL (se_v 2) (so_s (se_op ox_add os_add (se_v 3) se_int)) so_n))))))
  (ss_one (ss_rt (se_call g__law_tree hr pass0 (sa_cons (se_v 4) (sa_cons (se_v 1) (sa_cons se_int (sa_cons (se_callB ox_len os_len T.n_len (by decide +kernel) (sa_cons (se_v 4) sa_nil)) sa_nil))))))))) ss_nil)
  (ss_cons (ss_if (sb_cmp (ox_eq (Room.u64 hr)) os_eq (se_op op_mod os_mod (se_v 1) se_int) se_int (nomark _)) (ss_one (ss_rt (se_tup (sa_cons se_str (sa_cons se_non (sa_cons (se_v 0) sa_nil)))))) ss_nil)
  (ss_cons (ss_if (sb_cmp (ox_eq (Room.u64 hr)) os_eq (se_op op_mod os_mod (se_v 1) se_int) se_int (nomark _)) (ss_one (ss_rt (se_ix ix_seq os_ix (se_v 0) (se_op ox_add os_add se_int (se_op op_mod os_mod (se_op op_fdiv os_div (se_v 1) se_int) se_int)) (fun _ _ => rfl)))) ss_nil)
  (ss_one (ss_rt (se_tup (sa_cons se_str (sa_cons (se_ix ix_seq os_ix (se_v 0) se_int (fun _ _ => rfl)) (sa_cons (se_ix ix_seq os_ix (se_v 0) se_int (fun _ _ => rfl)) sa_nil))))))))))
theorem sc__law_first : FnScope N__law_first ["which", "keys", "rows", "tree"] (defScope st__law_first) := ⟨rfl, rfl, rfl, by decide +kernel, rfl, by decide +kernel, by decide +kernel⟩
theorem k__law_first (T : Tp K mg) : ∀ n, Kn P w K mg base (L2.CX P w) n "_law_first" .e (R__law_first n) := by
  have sc := sc__law_first
  refine kn_X (fs := fun n => F__law_first (R_worths n) (R_roots n) (R_least n) (R_best n) (R_cost n) (R_even n)) T.d__law_first sc (fun _ => rfl) (fun _ => rfl) fun n f hm ih cdv A outer s H E hr => ?_
  have g_worths := k_worths (P := P) (w := w) (base := base) T n
  have g_roots := k_roots (P := P) (w := w) (base := base) T n
  have g_least := k_least (P := P) (w := w) (base := base) T n
  have g_best := k_best (P := P) (w := w) (base := base) T n
  have g_cost := k_cost (P := P) (w := w) (base := base) T n
  have g_even := k_even (P := P) (w := w) (base := base) T n
  exact (ss_cons (ss_if (sb_cmp (ox_eq (Room.u64 hr)) os_eq (se_v 0) se_int (nomark _)) (ss_one (ss_ex (SN.toE (sn_call g_worths hr (passes_call (takes_of rfl rfl rfl rfl) (fun _ _ _ _ h => h)) (sa_cons (se_v 1) (sa_cons (se_ix ix_seq os_ix (se_v 2) se_int (fun _ _ => rfl)) (sa_cons (se_ix ix_seq os_ix (se_v 2) se_int (fun _ _ => rfl)) sa_nil))))))) ss_nil)
  (ss_cons (ss_if (sb_cmp (ox_eq (Room.u64 hr)) os_eq (se_v 0) se_int (nomark _)) (ss_one (ss_ex (SN.toE (sn_call g_roots hr (passes_call (takes_of rfl rfl rfl rfl) (fun _ _ _ _ h => h)) (sa_cons (se_v 1) (sa_cons (se_ix ix_seq os_ix (se_v 2) se_int (fun _ _ => rfl)) (sa_cons (se_ix ix_seq os_ix (se_v 2) se_int (fun _ _ => rfl)) sa_nil))))))) ss_nil)
  (ss_cons (ss_if (sb_cmp (ox_eq (Room.u64 hr)) os_eq (se_v 0) se_int (nomark _)) (ss_one (ss_ex (se_call g_least hr (passes_call (takes_of rfl rfl rfl rfl) (fun _ _ _ _ h => h)) (sa_cons (se_v 1) (sa_cons (se_ix ix_seq os_ix (se_v 2) se_int (fun _ _ => rfl)) (sa_cons (se_ix ix_seq os_ix (se_v 2) se_int (fun _ _ => rfl)) sa_nil)))))) ss_nil)
  (ss_cons (ss_if (sb_cmp (ox_eq (Room.u64 hr)) os_eq (se_v 0) se_int (nomark _)) (ss_one (ss_ex (se_call g_best hr (passes_call (takes_of rfl rfl rfl rfl) (fun _ _ _ _ h => h)) (sa_cons (se_v 1) (sa_cons (se_ix ix_seq os_ix (se_v 2) se_int (fun _ _ => rfl)) (sa_cons (se_ix ix_seq os_ix (se_v 2) se_int (fun _ _ => rfl)) sa_nil)))))) ss_nil)
  (ss_cons (ss_if (sb_cmp (ox_eq (Room.u64 hr)) os_eq (se_v 0) se_int (nomark _)) (ss_one (ss_ex (se_call g_cost hr (passes_call (takes_of rfl rfl rfl rfl) (fun _ _ _ _ h => h)) (sa_cons (se_v 1) (sa_cons (se_ix ix_seq os_ix (se_v 2) se_int (fun _ _ => rfl)) (sa_cons (se_ix ix_seq os_ix (se_v 2) se_int (fun _ _ => rfl)) (sa_cons (se_v 3) sa_nil))))))) ss_nil)
  (ss_one (ss_if (sb_cmp (ox_eq (Room.u64 hr)) os_eq (se_v 0) se_int (nomark _)) (ss_one (ss_ex (se_call g_even hr (passes_call (takes_of rfl rfl rfl rfl) (fun _ _ _ _ h => h)) (sa_cons (se_v 1) sa_nil)))) ss_nil)))))))
theorem sc__law_second : FnScope N__law_second ["which", "keys", "tree", "good"] (defScope st__law_second) := ⟨rfl, rfl, rfl, by decide +kernel, rfl, by decide +kernel, by decide +kernel⟩
theorem k__law_second (T : Tp K mg) : ∀ n, Kn P w K mg base (L2.CX P w) n "_law_second" .e (R__law_second n) := by
  have sc := sc__law_second
  refine kn_X (fs := fun n => F__law_second (R_seek n) (R_most_steps n) (R_shown n) (R_turned n) (R_turns n)) T.d__law_second sc (fun _ => rfl) (fun _ => rfl) fun n f hm ih cdv A outer s H E hr => ?_
  have g_seek := k_seek (P := P) (w := w) (base := base) T n
  have g_most_steps := k_most_steps (P := P) (w := w) (base := base) T n
  have g_shown := k_shown (P := P) (w := w) (base := base) T n
  have g_turned := k_turned (P := P) (w := w) (base := base) T n
  have g_turns := k_turns (P := P) (w := w) (base := base) T n
  exact (ss_cons (ss_if (sb_cmp (ox_eq (Room.u64 hr)) os_eq (se_v 0) se_int (nomark _)) (ss_one (ss_ex (se_call g_seek hr (passes_call (takes_of rfl rfl rfl rfl) (fun _ _ _ _ h => h)) (sa_cons (se_v 1) (sa_cons (se_v 2) (sa_cons se_str sa_nil)))))) ss_nil)
  (ss_cons (ss_if (sb_cmp (ox_eq (Room.u64 hr)) os_eq (se_v 0) se_int (nomark _)) (ss_one (ss_ex (se_call g_most_steps hr (passes_call (takes_of rfl rfl rfl rfl) (fun _ _ _ _ h => h)) (sa_cons (se_v 1) (sa_cons (se_v 2) sa_nil))))) ss_nil)
  (ss_cons (ss_if (sb_cmp (ox_eq (Room.u64 hr)) os_eq (se_v 0) se_int (nomark _)) (ss_one (ss_ex (se_call g_shown hr (passes_call (takes_of rfl rfl rfl rfl) (fun _ _ _ _ h => h)) (sa_cons (se_v 1) (sa_cons (se_v 2) sa_nil))))) ss_nil)
  (ss_cons (ss_if (sb_cmp (ox_eq (Room.u64 hr)) os_eq (se_v 0) se_int (nomark _)) (ss_one (ss_ex (se_call g_turned hr (passes_call (takes_of rfl rfl rfl rfl) (fun _ _ _ _ h => h)) (sa_cons (se_v 1) (sa_cons (se_v 2) (sa_cons se_str sa_nil)))))) ss_nil)
  (ss_cons (ss_if (sb_cmp (ox_eq (Room.u64 hr)) os_eq (se_v 0) se_int (nomark _)) (ss_one (ss_ex (SO.e (so_call g_turns hr (passes_call (takes_of rfl rfl rfl rfl) (fun _ _ _ _ h => h)) (sa_cons (se_v 1) (sa_cons (se_v 2) (sa_cons (se_v 3) sa_nil))))))) ss_nil)
  (ss_one (ss_if (sb_cmp (ox_eq (Room.u64 hr)) os_eq (se_v 0) se_int (nomark _)) (ss_one (ss_ex (SO.e (so_call g_turns hr (passes_call (takes_of rfl rfl rfl rfl) (fun _ _ _ _ h => h)) (sa_cons (se_v 1) (sa_cons (se_v 3) (sa_cons (se_v 2) sa_nil))))))) ss_nil)))))))
theorem sc__law_word : FnScope N__law_word ["which", "keys", "rows", "tree", "good"] (defScope st__law_word) := ⟨rfl, rfl, rfl, by decide +kernel, rfl, by decide +kernel, by decide +kernel⟩
theorem k__law_word (T : Tp K mg) : ∀ n, Kn P w K mg base CX0 n "_law_word" .e (R__law_word n) := by
  have sc := sc__law_word
  obtain ⟨C_NoKey, C_NoKeys, C_NoTree, C_NoWeights, C_SeekError, XS⟩ := T.xs
  refine kn_0 (fs := fun n => F__law_word (R__law_first n) (R__law_second n)) T.d__law_word sc (fun _ => rfl) (fun _ => rfl) fun n f hm ih cdv A outer s H E hr => ?_
  have g__law_first := k__law_first (P := P) (w := w) (base := base) T n
  have g__law_second := k__law_second (P := P) (w := w) (base := base) T n
  exact (ss_cons (ss_as (ps_set (i := 5) sc.nd rfl (by first | exact Or.inl rfl | exact Or.inr rfl) se_str))
  (ss_cons (ss_try (i := 6) sc.nd rfl rfl (fun W pn xe tk => by exact (su_cons (su_call g__law_first hr tk (fun _ => (sa_cons (se_v 0) (sa_cons (se_v 1) (sa_cons (se_v 2) (sa_cons (se_v 3) sa_nil)))))) (su_one (su_call g__law_second hr tk (fun _ => (sa_cons (se_v 0) (sa_cons (se_v 1) (sa_cons (se_v 3) (sa_cons (se_v 4) sa_nil))))))))) (by exact (.cons ⟨rfl, by decide, .inl XS.g_SeekError⟩ (.cons XS.g_NoKeys XS.n_NoKeys XS.m_NoKeys_SeekError (.cons XS.g_NoWeights XS.n_NoWeights XS.m_NoWeights_SeekError (.cons XS.g_NoTree XS.n_NoTree XS.m_NoTree_SeekError (.cons XS.g_NoKey XS.n_NoKey XS.m_NoKey_SeekError ExY.nil)))) ExY.nil (fun _ _ => by exact (ss_cons (ss_as (ps_set (i := 7) sc.nd rfl (by first | exact Or.inl rfl | exact Or.inr rfl) (SO.e (so_lst (sa_cons (se_isx [("NoKeys", true), ("NoWeights", false), ("NoTree", false), ("NoKey", false)] (se_v 6) T.n_isinstance (pe_cls rfl XS.g_NoKeys) (.own C_NoKeys) ⟨⟨⟨_, XS.n_NoKeys, XS.e_NoKeys, XS.i_NoKeys_NoKeys⟩⟩, ⟨⟨_, XS.n_NoWeights, XS.e_NoWeights, XS.i_NoWeights_NoKeys⟩⟩, ⟨⟨_, XS.n_NoTree, XS.e_NoTree, XS.i_NoTree_NoKeys⟩⟩, ⟨⟨_, XS.n_NoKey, XS.e_NoKey, XS.i_NoKey_NoKeys⟩⟩, trivial⟩ (by decide +kernel)) (sa_cons (se_isx [("NoKeys", false), ("NoWeights", true), ("NoTree", false), ("NoKey", false)] (se_v 6) T.n_isinstance (pe_cls rfl XS.g_NoWeights) (.own C_NoWeights) ⟨⟨⟨_, XS.n_NoKeys, XS.e_NoKeys, XS.i_NoKeys_NoWeights⟩⟩, ⟨⟨_, XS.n_NoWeights, XS.e_NoWeights, XS.i_NoWeights_NoWeights⟩⟩, ⟨⟨_, XS.n_NoTree, XS.e_NoTree, XS.i_NoTree_NoWeights⟩⟩, ⟨⟨_, XS.n_NoKey, XS.e_NoKey, XS.i_NoKey_NoWeights⟩⟩, trivial⟩ (by decide +kernel)) (sa_cons (se_isx [("NoKeys", false), ("NoWeights", false), ("NoTree", true), ("NoKey", false)] (se_v 6) T.n_isinstance (pe_cls rfl XS.g_NoTree) (.own C_NoTree) ⟨⟨⟨_, XS.n_NoKeys, XS.e_NoKeys, XS.i_NoKeys_NoTree⟩⟩, ⟨⟨_, XS.n_NoWeights, XS.e_NoWeights, XS.i_NoWeights_NoTree⟩⟩, ⟨⟨_, XS.n_NoTree, XS.e_NoTree, XS.i_NoTree_NoTree⟩⟩, ⟨⟨_, XS.n_NoKey, XS.e_NoKey, XS.i_NoKey_NoTree⟩⟩, trivial⟩ (by decide +kernel)) sa_nil)))))))
  (ss_cons (ss_as (ps_set (i := 5) sc.nd rfl (by first | exact Or.inl rfl | exact Or.inr rfl) se_str))
  (ss_one (ss_if (PW.pt (sw_and (sb_cmp (ox_eq (u64_mark hr)) os_eq (se_count (se_v 7) (sa_cons se_bl sa_nil)) se_int (nomark _)) (sw_one (sb_val (se_isx [("NoKeys", true), ("NoWeights", true), ("NoTree", true), ("NoKey", true)] (se_v 6) T.n_isinstance (pe_bty rfl T.n_ValueError (by decide +kernel)) (.ty "ValueError") ⟨⟨⟨_, XS.n_NoKeys, XS.e_NoKeys, XS.i_NoKeys_ValueError⟩⟩, ⟨⟨_, XS.n_NoWeights, XS.e_NoWeights, XS.i_NoWeights_ValueError⟩⟩, ⟨⟨_, XS.n_NoTree, XS.e_NoTree, XS.i_NoTree_ValueError⟩⟩, ⟨⟨_, XS.n_NoKey, XS.e_NoKey, XS.i_NoKey_ValueError⟩⟩, trivial⟩ (by decide +kernel))) (by first | exact Or.inl rfl | exact Or.inr rfl)))) (ss_one (ss_as (ps_set (i := 5) sc.nd rfl (by first | exact Or.inl rfl | exact Or.inr rfl) (se_ix ix_seq os_ix (SO.e (so_lst (sa_cons se_str (sa_cons se_str (sa_cons se_str sa_nil))))) (se_index (se_v 7) (sa_cons se_bl sa_nil)) (fun _ _ => rfl))))) ss_nil))))) .nil)))
  (ss_one (ss_rt (se_v 5)))))
theorem sc_law_k17 : FnScope N_law_k17 ["script"] (defScope st_law_k17) := ⟨rfl, rfl, rfl, by decide +kernel, rfl, by decide +kernel, by decide +kernel⟩
theorem k_law (T : Tp K mg) (n : Nat) {f : Addr} {fd : FuncData} (F : Fun K "law" "law" st_law_k17 f fd) : FnOk P w K mg base CX0 (n + 1) f fd ["script"] (spF K mg .e (R_law_k17 (n + 1))) := by
  have sc := sc_law_k17
  refine fn_0 (fs := (fun n => F_law_k17 (R__law_keys n) (R__law_tree n) (R__law_many n) (R__law_weights n) (R__law_cell_at n) (R__law_bad_tree n) (R__law_bad_weights n) (R__law_bad_keys n) (R__law_word n)) n) F sc rfl fun cdv A outer s H E hr => ?_
  have g__law_keys := k__law_keys (P := P) (w := w) (base := base) T n
  have g__law_tree := k__law_tree (P := P) (w := w) (base := base) T n
  have g__law_many := k__law_many (P := P) (w := w) (base := base) T n
  have g__law_weights := k__law_weights (P := P) (w := w) (base := base) T n
  have g__law_cell_at := k__law_cell_at (P := P) (w := w) (base := base) T n
  have g__law_bad_tree := k__law_bad_tree (P := P) (w := w) (base := base) T n
  have g__law_bad_weights := k__law_bad_weights (P := P) (w := w) (base := base) T n
  have g__law_bad_keys := k__law_bad_keys (P := P) (w := w) (base := base) T n
  have g__law_word := k__law_word (P := P) (w := w) (base := base) T n
  exact (ss_cons (ss_as (ps_set (i := 1) sc.nd rfl (by first | exact Or.inl rfl | exact Or.inr rfl) (se_callB (call_max2 rfl) os_max T.n_max (by decide +kernel) (sa_cons se_int (sa_cons (se_call g__law_many hr pass0 (sa_cons (se_call g__law_cell_at hr pass0 (sa_cons (se_v 0) (sa_cons se_int sa_nil))) (sa_cons se_int sa_nil))) sa_nil)))))
  (ss_cons (ss_as (ps_set (i := 2) sc.nd rfl (by first | exact Or.inl rfl | exact Or.inr rfl) (SO.e (so_call g__law_keys hr pass0 (sa_cons (se_v 0) (sa_cons (se_v 1) sa_nil))))))
  (ss_cons (ss_as (ps_set (i := 3) sc.nd rfl (by first | exact Or.inl rfl | exact Or.inr rfl) (SO.e (so_lst (sa_cons (SO.e (so_call g__law_weights hr pass0 (sa_cons (se_v 0) (sa_cons se_int (sa_cons (se_v 1) sa_nil))))) (sa_cons (SO.e (so_call g__law_weights hr pass0 (sa_cons (se_v 0) (sa_cons se_int (sa_cons (se_op ox_add os_add (se_v 1) se_int) sa_nil))))) sa_nil))))))
  (ss_cons (ss_as (ps_set (i := 4) sc.nd rfl (by first | exact Or.inl rfl | exact Or.inr rfl) (se_call g__law_tree hr pass0 (sa_cons (se_v 2) (sa_cons (se_call g__law_cell_at hr pass0 (sa_cons (se_v 0) (sa_cons se_int sa_nil))) (sa_cons se_int (sa_cons (se_v 1) sa_nil)))))))
  (ss_cons (ss_as (ps_set (i := 5) sc.nd rfl (by first | exact Or.inl rfl | exact Or.inr rfl) (se_v 4)))
  (ss_cons (ss_nw (ps_set (i := 6) sc.nd rfl (by first | exact Or.inl rfl | exact Or.inr rfl) (so_lst (sa_cons se_str (sa_cons se_str (sa_cons se_str sa_nil))))))
  (ss_cons (ss_if (sb_cmp (ox_eq (Room.u64 hr)) os_eq (se_op op_mod os_mod (se_call g__law_cell_at hr pass0 (sa_cons (se_v 0) (sa_cons se_int sa_nil))) se_int) se_int (nomark _)) (ss_cons (ss_as (ps_set (i := 5) sc.nd rfl (by first | exact Or.inl rfl | exact Or.inr rfl) (se_call g__law_bad_tree hr pass0 (sa_cons (se_v 4) (sa_cons (se_op op_fdiv os_div (se_call g__law_cell_at hr pass0 (sa_cons (se_v 0) (sa_cons se_int sa_nil))) se_int) (sa_cons (se_v 2) sa_nil))))))
  (ss_one (ss_it (pv 6) se_int se_str))) ss_nil)
  (ss_cons (ss_if (sb_cmp (ox_eq (Room.u64 hr)) os_eq (se_op op_mod os_mod (se_call g__law_cell_at hr pass0 (sa_cons (se_v 0) (sa_cons se_int sa_nil))) se_int) se_int (nomark _)) (ss_cons (ss_as (ps_set (i := 3) sc.nd rfl (by first | exact Or.inl rfl | exact Or.inr rfl) (se_call g__law_bad_weights hr pass0 (sa_cons (se_v 3) (sa_cons (se_op op_fdiv os_div (se_call g__law_cell_at hr pass0 (sa_cons (se_v 0) (sa_cons se_int sa_nil))) se_int) sa_nil)))))
  (ss_one (ss_it (pv 6) se_int se_str))) ss_nil)
  (ss_cons (ss_if (sb_cmp (ox_eq (Room.u64 hr)) os_eq (se_op op_mod os_mod (se_call g__law_cell_at hr pass0 (sa_cons (se_v 0) (sa_cons se_int sa_nil))) se_int) se_int (nomark _)) (ss_cons (ss_as (ps_set (i := 2) sc.nd rfl (by first | exact Or.inl rfl | exact Or.inr rfl) (se_call g__law_bad_keys hr pass0 (sa_cons (se_v 2) (sa_cons (se_op op_fdiv os_div (se_call g__law_cell_at hr pass0 (sa_cons (se_v 0) (sa_cons se_int sa_nil))) se_int) sa_nil)))))
  (ss_one (ss_it (pv 6) se_int se_str))) ss_nil)
  (ss_cons (ss_for PassesOwn.never rfl (src_rng1 T.n_range se_int) (pg_name (i := 7) sc.nd rfl (by first | exact Or.inl rfl | exact Or.inr rfl)) (tg_1 7) ne_gS1 (ss_cons (ss_asB (ps_set (i := 8) sc.nd rfl (by first | exact Or.inl rfl | exact Or.inr rfl) (se_ix ix_seq os_ix (se_v 6) se_int (fun _ _ => rfl))))
  (ss_cons (ss_if (PW.pt (sw_and (sb_cmp (ox_eq (Room.u64 hr)) os_eq (se_v 8) se_str (nomark _)) (sw_one (sb_cmp ox_lt os_lt (se_v 7) se_int (nomark _)) (by first | exact Or.inl rfl | exact Or.inr rfl)))) (ss_one (ss_asB (ps_set (i := 8) sc.nd rfl (by first | exact Or.inl rfl | exact Or.inr rfl) (se_ix ix_seq os_ix (se_v 6) se_int (fun _ _ => rfl))))) ss_nil)
  (ss_cons (ss_if (PW.pt (sw_and (sb_cmp (ox_eq (Room.u64 hr)) os_eq (se_v 8) se_str (nomark _)) (sw_one (sb_cmp ox_in os_in (se_v 7) (se_tup (sa_cons se_int (sa_cons se_int (sa_cons se_int (sa_cons se_int (sa_cons se_int (sa_cons se_int (sa_cons se_int sa_nil)))))))) (by with_unfolding_all rfl)) (by first | exact Or.inl rfl | exact Or.inr rfl)))) (ss_one (ss_asB (ps_set (i := 8) sc.nd rfl (by first | exact Or.inl rfl | exact Or.inr rfl) (se_ix ix_seq os_ix (se_v 6) se_int (fun _ _ => rfl))))) ss_nil)
  (ss_cons (ss_if (PW.pt (sw_and (sb_cmp (ox_eq (Room.u64 hr)) os_eq (se_v 8) se_str (nomark _)) (sw_one (sb_cmp (ox_eq (Room.u64 hr)) os_eq (se_v 7) se_int (nomark _)) (by first | exact Or.inl rfl | exact Or.inr rfl)))) (ss_one (ss_as (ps_set (i := 8) sc.nd rfl (by first | exact Or.inl rfl | exact Or.inr rfl) se_str))) ss_nil)
  (ss_one (ss_if (sb_cmp (ox_ne (Room.u64 hr)) os_ne (se_call g__law_word hr pass0 (sa_cons (se_v 7) (sa_cons (SO.e (so_callT call_list_of oo_list T.n_list (by decide +kernel) (sa_cons (se_v 2) sa_nil))) (sa_cons (SO.e (so_lst (sa_cons (SO.e (so_callT call_list_of oo_list T.n_list (by decide +kernel) (sa_cons (se_ix ix_seq os_ix (se_v 3) se_int (fun _ _ => rfl)) sa_nil))) (sa_cons (SO.e (so_callT call_list_of oo_list T.n_list (by decide +kernel) (sa_cons (se_ix ix_seq os_ix (se_v 3) se_int (fun _ _ => rfl)) sa_nil))) sa_nil)))) (sa_cons (se_v 5) (sa_cons (se_v 4) sa_nil)))))) (se_v 8) (nomark _)) (ss_one (ss_rt se_bl)) ss_nil)))))))
  (ss_one (ss_rt se_bl))))))))))))
end
end k17
end Sk

namespace Sk
open PySem PySem.Spec PyProof.Rows L2

/-! ### words as lists of signs -/
abbrev Wd := List Nat
def dS (l : Wd) : D := .str ⟨l.toArray⟩
def dI (i : Int) : D := .int i
def dB (b : Bool) : D := .bool b
def dLI (l : List Int) : D := .list (l.map .int)
def dLS (l : List Wd) : D := .list (l.map dS)
def dLB (l : List Bool) : D := .list (l.map .bool)

/-! ### evaluation -/
section
variable {α β : Type}
@[simp] theorem ok_bind' (a : α) (f : α → Rs β) : (Rs.ok a).bind f = f a := (rfl)
@[simp] theorem exc_bind' (x : String) (f : α → Rs β) : (Rs.exc x : Rs α).bind f = .exc x := (rfl)
@[simp] theorem bad_bind' (f : α → Rs β) : (Rs.bad : Rs α).bind f = .bad := (rfl)
theorem bind_ok' (r : Rs α) : r.bind .ok = r := by cases r <;> rfl
theorem ite_bind {c : Prop} [Decidable c] (a b : Rs α) (f : α → Rs β) : (if c then a else b).bind f = if c then a.bind f else b.bind f := by split <;> rfl
theorem bind_assoc {γ : Type} (r : Rs α) (f : α → Rs β) (g : β → Rs γ) : (r.bind f).bind g = r.bind fun a => (f a).bind g := by cases r <;> rfl
end
section
variable {ev : Ev} {env : SEnv} {fa fb fc fe fd f1 f2 : Ev → Rs D} {fr : Ev → Rs (List D)} {ga gb : Ev → Rs Bool} {f g : SEnv → Rs Fl} {d : D}
@[simp] theorem x_V (i : Nat) : eV i ev = match ev[i]? with | some (some d) => .ok d | _ => .bad := (rfl)
@[simp] theorem x_C (d : D) : eC d ev = .ok d := (rfl)
@[simp] theorem x_2 (op : D → D → Rs D) : e2 op fa fb ev = (fa ev).bind fun a => (fb ev).bind fun b => op a b := (rfl)
@[simp] theorem x_1 (op : D → Rs D) : e1 op fa ev = (fa ev).bind op := (rfl)
@[simp] theorem x_N : aN ev = .ok [] := (rfl)
@[simp] theorem x_aC : aC fa fr ev = (fa ev).bind fun a => (fr ev).bind fun r => .ok (a :: r) := (rfl)
@[simp] theorem x_A (op : List D → Rs D) : eA op fr ev = (fr ev).bind op := (rfl)
@[simp] theorem x_bE : bE fe ev = (fe ev).bind asB := (rfl)
@[simp] theorem x_bAnd : bAnd ga gb ev = (ga ev).bind fun a => if a = true then gb ev else .ok false := (rfl)
@[simp] theorem x_bOr : bOr ga gb ev = (ga ev).bind fun a => if a = true then .ok true else gb ev := (rfl)
@[simp] theorem x_bNot : bNot ga ev = (ga ev).bind fun a => .ok (!a) := (rfl)
@[simp] theorem x_And : eAnd fa fb ev = (fa ev).bind fun a => (asB a).bind fun a => if a = true then fb ev else .ok (.bool false) := (rfl)
@[simp] theorem x_Or : eOr fa fb ev = (fa ev).bind fun a => (asB a).bind fun a => if a = true then .ok (.bool true) else fb ev := (rfl)
@[simp] theorem x_Not : eNot fa ev = (fa ev).bind fun a => (asB a).bind fun a => .ok (.bool (!a)) := (rfl)
@[simp] theorem x_Ch (op op' : D → D → Rs D) : eCh op op' fa fb fc ev = (fa ev).bind fun a => (fb ev).bind fun b => (op a b).bind fun z => (asB z).bind fun k => if k = true then (fc ev).bind fun c => op' b c else .ok (.bool false) := (rfl)
@[simp] theorem x_oN : oN ev = .ok none := (rfl)
@[simp] theorem x_oS : oS fe ev = (fe ev).bind asI := (rfl)
@[simp] theorem x_Sl (op : D → Option Int → Option Int → Rs D) (fl fh : Ev → Rs (Option Int)) : eSl op fe fl fh ev = (fe ev).bind fun a => (fl ev).bind fun l => (fh ev).bind fun h => op a l h := (rfl)
@[simp] theorem x_Index : eIndex fe fr ev = (fe ev).bind fun a => lstB a fun ds => (fr ev).bind fun r => opIndex ds r := (rfl)
@[simp] theorem x_Met (op : Str → List D → Rs D) : eMet op fe fr ev = (fe ev).bind fun a => strB a fun z => (fr ev).bind fun r => op z r := (rfl)
@[simp] theorem x_Dg : eDg fd f1 f2 ev = (fd ev).bind fun d => dicB d fun ps => (f1 ev).bind fun a => intB a fun a => (f2 ev).bind fun b => intB b fun b => rsI (getIP ps (a, b)) := (rfl)
@[simp] theorem x_yes : yesB ev = .ok true := (rfl)
@[simp] theorem x_R1 : zR1 fa ev = (fa ev).bind rng1 := (rfl)
@[simp] theorem x_R2 : zR2 fa fb ev = (fa ev).bind fun a => (fb ev).bind fun b => rng2 a b := (rfl)
@[simp] theorem x_zL : zLst fa ev = (fa ev).bind lstR := (rfl)
@[simp] theorem x_zT : zTup fa ev = (fa ev).bind tupR := (rfl)
@[simp] theorem x_zS : zStr fa ev = (fa ev).bind strR := (rfl)
@[simp] theorem x_zZ : zZip fa fb ev = (fa ev).bind fun a => (fb ev).bind fun b => zipR a b := (rfl)
@[simp] theorem x_Lc (fs : Ev → Rs (List D)) (vs : List Nat) (i : Nat) (gp : Ev → Rs Bool) : eLc fs vs i gp fe ev = (fs ev).bind fun items => if items.length ≤ 100000 then
    (mapF (fun d => gp ((wipeE ev vs).set i (some d))) (fun d => fe ((wipeE ev vs).set i (some d))) items).bind fun ys => .ok (.list ys) else .bad := (rfl)
@[simp] theorem x_wn : wipeE ev [] = ev := (rfl)
@[simp] theorem x_wc (v : Nat) (vs : List Nat) : wipeE ev (v :: vs) = (wipeE ev vs).set v none := (rfl)
@[simp] theorem x_Nx : sNx env = .ok (.nx env) := (rfl)
@[simp] theorem x_Sq : sSq f g env = (f env).bind fun r => match r with
  | .nx e => g e
  | .rt d => .ok (.rt d)
  | .bk e => .ok (.bk e)
  | .ct e => .ok (.ct e) := (rfl)
@[simp] theorem x_If (c : Ev → Rs Bool) : sIf c f g env = (c (allV env)).bind fun b => if b = true then f env else g env := (rfl)
@[simp] theorem x_As (i : Nat) : sAs i fe env = (fe (hidV env)).bind fun d => .ok (.nx (env.set i (.sh d))) := (rfl)
@[simp] theorem x_AsB (i : Nat) : sAsB i fe env = (fe (allV env)).bind fun d => if flat d = true then .ok (.nx (env.set i (.sh d))) else .bad := (rfl)
@[simp] theorem x_Nw (i : Nat) : sNw i fe env = (fe (hidV env)).bind fun d => .ok (.nx (env.set i (.ow d))) := (rfl)
@[simp] theorem x_NwB (i : Nat) : sNwB i fe env = (fe (allV env)).bind fun d => if flatI d = true then .ok (.nx (env.set i (.ow d))) else .bad := (rfl)
@[simp] theorem x_Ex : sEx fe env = (fe (allV env)).bind fun _ => .ok (.nx env) := (rfl)
@[simp] theorem x_Rt : sRt fe env = (fe (allV env)).bind fun d => .ok (.rt d) := (rfl)
@[simp] theorem x_RtV (i : Nat) : sRtV i env = match env[i]? with | some (.ow d) => .ok (.rt d) | _ => .bad := (rfl)
@[simp] theorem x_Raise (x : String) : sRaise x env = .exc x := (rfl)
@[simp] theorem x_Ap (i : Nat) : sAp i fe env = owL env[i]? fun ds => (fe (hidV env)).bind fun d => if ds.length ≤ 100000 then .ok (.nx (env.set i (.ow (.list (ds ++ [d]))))) else .bad := (rfl)
@[simp] theorem x_Xt (i : Nat) : sXt i fe env = owL env[i]? fun ds => (fe (hidV env)).bind fun d => lstB d fun es => if ds.length + es.length ≤ 100000 then .ok (.nx (env.set i (.ow (.list (ds ++ es))))) else .bad := (rfl)
@[simp] theorem x_owL {α : Type} (ds : List D) (k : List D → Rs α) : owL (some (.ow (.list ds))) k = k ds := (rfl)
@[simp] theorem x_owD {α : Type} (ps : IP) (k : IP → Rs α) : owD (some (.ow (.dict (ddt ps)))) k = k ps := by unfold owD; simp [ipOf_ddt]
@[simp] theorem x_dicB {α : Type} (ps : IP) (k : IP → Rs α) : dicB (.dict (ddt ps)) k = k ps := by unfold dicB; simp [ipOf_ddt]
@[simp] theorem x_intB {α : Type} (i : Int) (k : Int → Rs α) : intB (.int i) k = k i := (rfl)
@[simp] theorem x_lstB {α : Type} (i : List D) (k : List D → Rs α) : lstB (.list i) k = k i := (rfl)
@[simp] theorem x_strB {α : Type} (i : Str) (k : Str → Rs α) : strB (.str i) k = k i := (rfl)
@[simp] theorem x_It (k : Nat) (fi : Ev → Rs D) : sIt k fi fe env = owL env[k]? fun ds => (fe (allV env)).bind fun d => if flat d = true then (fi (hidV env)).bind fun ix => (match ix with
  | .int j => (match ixN ds.length j with
    | some n => .ok (.nx (env.set k (.ow (.list (ds.set n d)))))
    | none => .bad)
  | _ => .bad) else .bad := (rfl)
@[simp] theorem x_Dp (k : Nat) : sDp k f1 f2 fe env = owD env[k]? fun ps => (fe (allV env)).bind fun d => intB d fun z => (f1 (hidV env)).bind fun a => intB a fun a => (f2 (hidV env)).bind fun b => intB b fun b =>
  if ps.length ≤ 100000 then .ok (.nx (env.set k (.ow (.dict (ddt (putIP ps (a, b) z)))))) else .bad := (rfl)
@[simp] theorem x_For (fs : Ev → Rs (List D)) (asg : D → SEnv → Rs SEnv) : sFor fs asg f env = (fs (hidV env)).bind fun items => loopF asg f items env := (rfl)
@[simp] theorem x_gS1 (i : Nat) : gS1 i d env = .ok (env.set i (.sh d)) := (rfl)
@[simp] theorem x_gS2 (i j : Nat) (a b : D) : gS2 i j (.tuple [a, b]) env = .ok ((env.set i (.sh a)).set j (.sh b)) := (rfl)
@[simp] theorem x_fn (m ar : Nat) (om : Om) (fs : SEnv → Rs Fl) (ds : List D) : fnOf m ar om fs ds = if ds.length = ar then (fs (ds.map Sl.sh ++ List.replicate (m - ar) Sl.un)).bind (endF om) else .bad := (rfl)
@[simp] theorem x_end (om : Om) (d : D) : endF om (.rt d) = .ok d := (rfl)
@[simp] theorem x_end2 (e : SEnv) : endF .e (.nx e) = .ok .none := (rfl)
@[simp] theorem x_hid0 : hidV [] = [] := (rfl)
@[simp] theorem x_hid1 (s : Sl) (l : SEnv) : hidV (s :: l) = s.hid :: hidV l := (rfl)
@[simp] theorem x_all0 : allV [] = [] := (rfl)
@[simp] theorem x_all1 (s : Sl) (l : SEnv) : allV (s :: l) = s.all :: allV l := (rfl)
@[simp] theorem x_h1 (d : D) : (Sl.sh d).hid = some d := (rfl)
@[simp] theorem x_h2 (d : D) : (Sl.ow d).hid = none := (rfl)
@[simp] theorem x_h3 : Sl.un.hid = none := (rfl)
@[simp] theorem x_a1 (d : D) : (Sl.sh d).all = some d := (rfl)
@[simp] theorem x_a2 (d : D) : (Sl.ow d).all = some d := (rfl)
@[simp] theorem x_a3 : Sl.un.all = none := (rfl)
@[simp] theorem x_asB (b : Bool) : asB (.bool b) = .ok b := (rfl)
@[simp] theorem x_asI (i : Int) : asI (.int i) = .ok (some i) := (rfl)
end
/-! operations -/
section
variable (i j : Int) (a b : Wd) (xs ys : List D)
@[simp] theorem o_addI : opAdd (.int i) (.int j) = .ok (.int (i + j)) := (rfl)
@[simp] theorem o_addS : opAdd (dS a) (dS b) = if a.length + b.length ≤ 100000 then .ok (dS (a ++ b)) else .bad := by
  unfold dS opAdd
  simp only [Str.length, List.size_toArray]
  have : (({ cps := a.toArray } : Str) ++ { cps := b.toArray }) = { cps := (a ++ b).toArray } := by
    show Str.mk (a.toArray ++ b.toArray) = _
    simp
  rw [this]
@[simp] theorem o_sub : opSub (.int i) (.int j) = .ok (.int (i - j)) := (rfl)
@[simp] theorem o_mul : opMul (.int i) (.int j) = if cmul i j = true then .ok (.int (i * j)) else .bad := (rfl)
@[simp] theorem o_div : opDiv (.int i) (.int j) = if 0 < j ∧ j < 1073741824 then .ok (.int (i / j)) else .bad := (rfl)
@[simp] theorem o_mod : opMod (.int i) (.int j) = if 0 < j then .ok (.int (i % j)) else .bad := (rfl)
@[simp] theorem o_neg : opNeg (.int i) = .ok (.int (-i)) := (rfl)
@[simp] theorem o_cat : opCat (.list xs) (.list ys) = if xs.length + ys.length ≤ 100000 then .ok (.list (xs ++ ys)) else .bad := (rfl)
@[simp] theorem o_ltI : opLt (.int i) (.int j) = .ok (.bool (decide (i < j))) := (rfl)
@[simp] theorem o_gtI : opGt (.int i) (.int j) = .ok (.bool (decide (j < i))) := (rfl)
@[simp] theorem o_leI : opLe (.int i) (.int j) = .ok (.bool (decide (i ≤ j))) := (rfl)
@[simp] theorem o_geI : opGe (.int i) (.int j) = .ok (.bool (decide (j ≤ i))) := (rfl)
@[simp] theorem o_ltS : opLt (dS a) (dS b) = .ok (.bool (decide (a < b))) := (rfl)
@[simp] theorem o_gtS : opGt (dS a) (dS b) = .ok (.bool (decide (b < a))) := (rfl)
@[simp] theorem o_leS : opLe (dS a) (dS b) = .ok (.bool (!decide (b < a))) := (rfl)
theorem dS_inj {a b : Wd} (h : dS a = dS b) : a = b := by
  unfold dS at h
  injection h with h
  injection h with h
  have := congrArg Array.toList h
  simpa using this
theorem strEq : (({ cps := a.toArray } : Str) = { cps := b.toArray }) ↔ a = b := by
  constructor
  · intro h
    injection h with h
    have := congrArg Array.toList h
    simpa using this
  · intro h; rw [h]
theorem shI : SeqAt.shaped (.int i) = true := by unfold SeqAt.shaped PyData.canLay0 PyData.depth; simp
@[simp] theorem o_eqI : opEq (.int i) (.int j) = .ok (.bool (decide (i = j))) := (rfl)
@[simp] theorem o_neI : opNe (.int i) (.int j) = .ok (.bool (!decide (i = j))) := (rfl)
@[simp] theorem o_eqS : opEq (dS a) (dS b) = .ok (.bool (decide (a = b))) := by
  show Rs.ok (PyData.bool (decide (({ cps := a.toArray } : Str) = { cps := b.toArray }))) = _
  rw [decide_eq_decide.mpr (strEq a b)]
@[simp] theorem o_neS : opNe (dS a) (dS b) = .ok (.bool (!decide (a = b))) := by
  show Rs.ok (PyData.bool (!decide (({ cps := a.toArray } : Str) = { cps := b.toArray }))) = _
  rw [decide_eq_decide.mpr (strEq a b)]
@[simp] theorem o_isN (d : D) : opIs d .none = .ok (.bool (isNone d)) := by cases d <;> rfl
@[simp] theorem o_isnN (d : D) : opIsN d .none = .ok (.bool (!isNone d)) := by cases d <;> rfl
@[simp] theorem o_ixL : opIx (.list xs) (.int i) = rsO (atI xs i) := (rfl)
@[simp] theorem o_ixT : opIx (.tuple xs) (.int i) = rsO (atI xs i) := (rfl)
@[simp] theorem o_ixS : opIx (dS a) (.int i) = if a.length ≤ 100000 then rsO ((atI a i).map fun c => dS [c]) else .bad := (rfl)
@[simp] theorem o_lenL : opLen [.list xs] = .ok (.int xs.length) := (rfl)
@[simp] theorem o_lenT : opLen [.tuple xs] = .ok (.int xs.length) := (rfl)
@[simp] theorem o_lenS : opLen [dS a] = if a.length ≤ 100000 then .ok (.int a.length) else .bad := (rfl)
@[simp] theorem o_min2 : opMin [.int i, .int j] = .ok (.int (if j < i then j else i)) := (rfl)
@[simp] theorem o_max2 : opMax [.int i, .int j] = .ok (.int (if j > i then j else i)) := (rfl)
@[simp] theorem o_sum (l : List Int) : opSum [dLI l] = .ok (.int l.sum) := by simp [opSum, dLI, intsOf_map, rsI]
@[simp] theorem o_all (l : List Bool) : opAll [dLB l] = .ok (.bool (l.all id)) := by simp [opAll, dLB, boolsOf_map, rsB]
@[simp] theorem o_intI : opInt [.int i] = .ok (.int i) := (rfl)
@[simp] theorem o_intB (b : Bool) : opInt [.bool b] = .ok (.int (if b = true then 1 else 0)) := (rfl)
@[simp] theorem o_listL : opList [.list xs] = .ok (.list xs) := (rfl)
@[simp] theorem o_listT : opList [.tuple xs] = .ok (.list xs) := (rfl)
@[simp] theorem o_rev : opRev (.list xs) = .ok (.list xs.reverse) := (rfl)
@[simp] theorem o_slL (lo hi : Option Int) : opSlL (.list xs) lo hi = .ok (.list (cutD xs lo hi)) := (rfl)
@[simp] theorem o_slT (lo hi : Option Int) : opSlT (.tuple xs) lo hi = .ok (.tuple (cutD xs lo hi)) := (rfl)
@[simp] theorem o_slS (lo hi : Option Int) : opSlS (dS a) lo hi = if a.length ≤ 100000 then .ok (dS (cutD a lo hi)) else .bad := (rfl)
@[simp] theorem o_lstR : lstR (.list xs) = .ok xs := (rfl)
@[simp] theorem o_tupR : tupR (.tuple xs) = .ok xs := (rfl)
@[simp] theorem o_strR : strR (dS a) = .ok (a.map fun c => dS [c]) := (rfl)
@[simp] theorem o_mkL : mkL xs = if xs.length ≤ 1000 then .ok (.list xs) else .bad := (rfl)
@[simp] theorem o_mkT : mkT xs = if xs.length ≤ 1000 then .ok (.tuple xs) else .bad := (rfl)
@[simp] theorem o_rsO (d : D) : rsO (some d) = .ok d := (rfl)
@[simp] theorem o_rsI (i : Int) : rsI (some i) = .ok (.int i) := (rfl)
@[simp] theorem o_rsB (i : Bool) : rsB (some i) = .ok (.bool i) := (rfl)
end
/-! ### cell_at, mix, many -/
theorem atI_nat {α : Type} {l : List α} {i : Int} (h : 0 ≤ i) : atI l i = l[i.toNat]? := by
  unfold atI ixN
  rw [if_pos h]
  by_cases c : i < l.length
  · rw [if_pos c]; rfl
  · rw [if_neg c]
    exact (List.getElem?_eq_none (by omega)).symm
def cellAt (ns : List Int) (k : Int) : Int := ns.getD k.toNat 0
theorem r_cell (n : Nat) (ns : List Int) (k : Int) (h0 : 0 ≤ k) : R__law_cell_at (n + 1) [dLI ns, .int k] = .ok (.int (cellAt ns k)) := by
  simp [R__law_cell_at, F__law_cell_at, dLI, atI_nat h0, cellAt]
  by_cases h : k < ns.length
  · have h2 : k.toNat < ns.length := by omega
    simp [h, h2, List.getElem?_eq_getElem h2]
  · have h2 : ns.length ≤ k.toNat := by omega
    simp [h, List.getElem?_eq_none h2]
def mixF (cell k : Int) : Int :=
  let s := (cell * 48271 + 104729 * k + 11) % 2147483647
  let s := (s * s + 7919 * k + 5) % 2147483629
  s * s % 2147483587
theorem cmul_r {i j : Int} (h : 0 ≤ j) (h2 : j < 4294967296) : cmul i j = true := by unfold cmul; exact decide_eq_true (.inr ⟨by omega, by omega⟩)
theorem cmul_l {i j : Int} (h : 0 ≤ i) (h2 : i < 4294967296) : cmul i j = true := by unfold cmul; exact decide_eq_true (.inl ⟨by omega, by omega⟩)
theorem cmul_mod (a b j : Int) (h : 0 < b) (h2 : b ≤ 4294967296) : cmul (a % b) j = true := cmul_l (Int.emod_nonneg _ (by omega)) (by have := Int.emod_lt_of_pos a h; omega)
theorem r_mix (n : Nat) (cell k : Int) : R__law_mix (n + 1) [.int cell, .int k] = .ok (.int (mixF cell k)) := by
  simp [R__law_mix, F__law_mix, mixF, cmul_r, cmul_l, cmul_mod]
theorem mix_pos (cell k : Int) : 0 ≤ mixF cell k := Int.emod_nonneg _ (by decide)
def manyF (cell most : Int) : Int := if cell / 7 % 4 = 1 then cell / 28 % (most + 1) else cell % (min 7 (most + 1))
theorem r_many (n : Nat) (cell most : Int) (h : 0 ≤ most) : R__law_many (n + 1) [.int cell, .int most] = .ok (.int (manyF cell most)) := by
  simp [R__law_many, F__law_many, manyF]
  by_cases c : cell / 7 % 4 = 1
  · have h1 : 0 < most + 1 := by omega
    simp [c, h1]
  · simp [c]
    have e : (if most + 1 < 7 then most + 1 else 7) = min 7 (most + 1) := by split <;> omega
    rw [e]
    have : 0 < min 7 (most + 1) := by omega
    simp [this]
theorem many_rng (cell most : Int) (h : 0 ≤ most) : 0 ≤ manyF cell most ∧ manyF cell most ≤ most := by
  unfold manyF
  split
  · have := Int.emod_nonneg (cell / 28) (b := most + 1) (by omega)
    have := Int.emod_lt_of_pos (cell / 28) (b := most + 1) (by omega)
    omega
  · have h2 : 0 < min 7 (most + 1) := by omega
    have := Int.emod_nonneg cell (b := min 7 (most + 1)) (by omega)
    have := Int.emod_lt_of_pos cell h2
    omega

/-! ### loops and comprehensions -/
theorem mapF_list {α : Type} {p : D → Rs Bool} {f : D → Rs D} (c : α → D) (q : α → Bool) (g : α → D) : ∀ l : List α, (∀ x ∈ l, p (c x) = .ok (q x) ∧ (q x = true → f (c x) = .ok (g x))) → mapF p f (l.map c) = .ok ((l.filter q).map g)
  | [], _ => rfl
  | x :: l, h => by
    have ih := mapF_list c q g l fun y hy => h y (List.mem_cons_of_mem _ hy)
    obtain ⟨h1, h2⟩ := h x List.mem_cons_self
    rw [List.map_cons]
    unfold mapF
    rw [h1]
    cases hq : q x with
    | true =>
      simp only [h2 hq, ih, Rs.ok_bind, List.filter_cons, hq, if_true, List.map_cons]
    | false =>
      simp only [ih, List.filter_cons, hq]
      rfl
theorem mapF_all {α : Type} {f : D → Rs D} (c : α → D) (g : α → D) (l : List α) (h : ∀ x ∈ l, f (c x) = .ok (g x)) : mapF (fun _ => .ok true) f (l.map c) = .ok (l.map g) := by
  rw [mapF_list c (fun _ => true) g l fun x hx => ⟨rfl, fun _ => h x hx⟩, List.filter_eq_self.mpr (fun _ _ => rfl)]
theorem loop_ok {α : Type} {asg : D → SEnv → Rs SEnv} {body : SEnv → Rs Fl} (c : α → D) (I : Nat → SEnv → Prop) : ∀ (l : List α) (k : Nat) (env : SEnv),
    (∀ i x env, l[i]? = some x → I (k + i) env → ∃ env1, asg (c x) env = .ok env1 ∧ ∃ e, (body env1 = .ok (.nx e) ∨ body env1 = .ok (.ct e)) ∧ I (k + i + 1) e) → I k env →
    ∃ e, loopF asg body (l.map c) env = .ok (.nx e) ∧ I (k + l.length) e
  | [], k, env, _, h => ⟨env, rfl, h⟩
  | x :: l, k, env, st, h => by
    obtain ⟨env1, h1, e, h2, h3⟩ := st 0 x env rfl h
    obtain ⟨e', h4, h5⟩ := loop_ok c I l (k + 1) e (fun i y env hy hi => by
      have := st (i + 1) y env hy (by rw [← Nat.add_assoc, Nat.add_right_comm]; exact hi)
      rw [← Nat.add_assoc, Nat.add_right_comm k i 1] at this
      exact this) h3
    refine ⟨e', ?_, by rw [List.length_cons, ← Nat.add_assoc, Nat.add_right_comm]; exact h5⟩
    rw [List.map_cons]
    unfold loopF
    rw [h1]
    rcases h2 with h2 | h2 <;> simp only [Rs.ok_bind, h2, h4]
theorem rng1_eq (j : Int) (h : -1000000 ≤ j ∧ j ≤ 1000000) : rng1 (.int j) = .ok ((List.range j.toNat).map fun k : Nat => .int (k : Int)) := by
  simp [rng1, h]
theorem rng2_eq (i j : Int) (h : (-1000000 ≤ i ∧ i ≤ 1000000) ∧ -1000000 ≤ j ∧ j ≤ 1000000) : rng2 (.int i) (.int j) = .ok ((List.range (j - i).toNat).map fun k : Nat => .int (i + (k : Int))) := by
  simp only [rng2, if_pos h]
/-! ### slices of lists -/
theorem sIx_nn (n d : Nat) (k : Int) (h : 0 ≤ k) : HT.sIx n d (some k) = min k.toNat n := by
  show (if k < 0 then (k + (n : Int)).toNat else min k.toNat n) = min k.toNat n
  rw [if_neg (by omega)]
theorem cut_take {α : Type} (l : List α) (k : Int) (h : 0 ≤ k) : cutD l none (some k) = l.take k.toNat := by
  unfold cutD
  rw [HT.sIx_none, sIx_nn _ _ _ h, List.drop_zero, Nat.sub_zero, Nat.min_comm]
  by_cases c : k.toNat ≤ l.length
  · rw [Nat.min_eq_right c]
  · rw [Nat.min_eq_left (by omega), List.take_of_length_le (Nat.le_refl _), List.take_of_length_le (by omega)]
theorem cut_drop {α : Type} (l : List α) (k : Int) (h : 0 ≤ k) : cutD l (some k) none = l.drop k.toNat := by
  unfold cutD
  rw [HT.sIx_none, sIx_nn _ _ _ h]
  by_cases c : k.toNat ≤ l.length
  · rw [Nat.min_eq_left c, List.take_of_length_le (by rw [List.length_drop]; omega)]
  · rw [Nat.min_eq_right (by omega), List.drop_of_length_le (Nat.le_refl _), List.drop_of_length_le (by omega)]; simp
theorem cut_mid {α : Type} (l : List α) (i j : Int) (h : 0 ≤ i) (h2 : i ≤ j) (h3 : j ≤ l.length) : cutD l (some i) (some j) = (l.drop i.toNat).take (j - i).toNat := by
  unfold cutD
  rw [sIx_nn _ _ _ h, sIx_nn _ _ _ (by omega), Nat.min_eq_left (by omega), Nat.min_eq_left (by omega)]
  congr 1
  omega
/-! ### the keys -/
def cabs : Wd := [99, 97, 98, 99, 97, 98, 99, 97, 98]
def preW : Wd := [97, 98, 122, 109]
def letW : Wd := [98, 100, 102, 104, 106, 108, 110, 112, 114, 116, 118, 120]
def letC (k : Nat) : Nat := letW.getD k 0
def tailW : Wd := [100, 99, 98, 97, 122, 121, 120]
def keysF (ns : List Int) (many : Int) : List Wd :=
  if cellAt ns 28 / 4 % 4 = 1 ∧ many ≤ 8 then (List.range many.toNat).map fun k => cabs.take (k + 1)
  else (List.range many.toNat).map fun k => preW.take (cellAt ns 28 % 4).toNat ++ [letC k] ++ tailW.take (cellAt ns (29 + k) % 5).toNat
theorem lit_cab : (PyData.str "cab") = dS [99, 97, 98] := by unfold dS; congr 1
theorem lit_tail : (PyData.str "dcbazyx") = dS tailW := by unfold dS; congr 1
theorem lit_pre : (PyData.str "abzm") = dS preW := by unfold dS; congr 1
theorem lit_let : (PyData.str "bdfhjlnprtvx") = dS letW := by unfold dS; congr 1
theorem cab3 : opRep (dS [99, 97, 98]) (.int 3) = .ok (dS cabs) := by
  unfold dS
  simp only [opRep]
  rw [if_pos (by decide)]
  congr 1
def keyB (ns : List Int) (cell : Int) (k : Nat) : Wd := preW.take (cell % 4).toNat ++ [letC k] ++ tailW.take (cellAt ns (29 + k) % 5).toNat
theorem loop_eq {α : Type} {asg : D → SEnv → Rs SEnv} {body : SEnv → Rs Fl} (c : α → D) (S : Nat → SEnv → Prop) (l : List α) (env : SEnv) (h0 : S 0 env) (st : ∀ i x env, l[i]? = some x → S i env → ∃ env1, asg (c x) env = .ok env1 ∧ ∃ e, body env1 = .ok (.nx e) ∧ S (i + 1) e) :
    ∃ e, loopF asg body (l.map c) env = .ok (.nx e) ∧ S l.length e := by
  obtain ⟨e, h1, h2⟩ := loop_ok (asg := asg) (body := body) c S l 0 env (fun i x env hx hi => by
    rw [Nat.zero_add] at hi ⊢
    obtain ⟨e1, h1, e, h2, h3⟩ := st i x env hx hi
    exact ⟨e1, h1, e, .inl h2, h3⟩) h0
  rw [Nat.zero_add] at h2
  exact ⟨e, h1, h2⟩
theorem range_at {m i x : Nat} (h : (List.range m)[i]? = some x) : x = i ∧ i < m := by
  obtain ⟨hi, hx⟩ := List.getElem?_eq_some_iff.mp h
  rw [List.length_range] at hi
  rw [List.getElem_range] at hx
  exact ⟨hx.symm, hi⟩
theorem keys_loop (n : Nat) (ns : List Int) (many cell : Int) (m : Nat) (hm : m ≤ 12) : ∃ s4 s5, loopF (gS1 4) (B1__law_keys (R__law_cell_at (n + 1))) ((List.range m).map fun k : Nat => .int (k : Int)) [.sh (dLI ns), .sh (.int many), .sh (.int cell), .ow (.list []), .un, .un] =
    .ok (.nx [.sh (dLI ns), .sh (.int many), .sh (.int cell), .ow (.list ((List.range m).map fun k => dS (keyB ns cell k))), s4, s5]) := by
  obtain ⟨e, h1, s4, s5, h2⟩ := loop_eq (asg := gS1 4) (body := B1__law_keys (R__law_cell_at (n + 1))) (fun k : Nat => PyData.int (k : Int))
    (fun i env => ∃ s4 s5, env = [.sh (dLI ns), .sh (.int many), .sh (.int cell), .ow (.list ((List.range i).map fun k => dS (keyB ns cell k))), s4, s5]) (List.range m) _ ⟨_, _, rfl⟩ (by
    rintro i x env hx ⟨s4, s5, rfl⟩
    obtain ⟨rfl, hi⟩ := range_at hx
    refine ⟨_, rfl, ?_⟩
    have a1 : 0 ≤ cellAt ns (29 + x) % 5 := Int.emod_nonneg _ (by decide)
    have a2 : 0 ≤ cell % 4 := Int.emod_nonneg _ (by decide)
    have a3 : x < 12 := by omega
    have a4 : (0 : Int) ≤ 29 + x := by omega
    have l1 : tailW.length = 7 := rfl
    have l2 : preW.length = 4 := rfl
    have l3 : letW.length = 12 := rfl
    have l4 : letW[x]? = some (letC x) := by simp [l3, a3, letC]
    have l7 : x ≤ 100000 := by omega
    have l8 : min (cell % 4).toNat 4 ≤ 99999 := by omega
    have l9 : min (cell % 4).toNat 4 + 1 + min (cellAt ns (29 + x) % 5).toNat 7 ≤ 100000 := by omega
    simp [B1__law_keys, r_cell, lit_tail, lit_pre, lit_let, cut_take, a1, a2, a4, atI_nat, l1, l2, l3, l4, l7, l8, l9, List.range_succ, keyB])
  rw [List.length_range] at h2
  exact ⟨s4, s5, by rw [h2] at h1; exact h1⟩
theorem r_keys (n : Nat) (ns : List Int) (many : Int) (h0 : 0 ≤ many) (h12 : many ≤ 12) : R__law_keys (n + 2) [dLI ns, .int many] = .ok (dLS (keysF ns many)) := by
  have h1 : many ≤ 100000 := by omega
  simp [R__law_keys, F__law_keys, r_cell]
  by_cases c : cellAt ns 28 / 4 % 4 = 1
  · by_cases c2 : many ≤ 8
    · simp [c, c2, rng1_eq many (by omega), lit_cab, cab3, h1]
      rw [mapF_all (fun k : Nat => PyData.int k) (fun k => dS (cabs.take (k + 1)))]
      · simp [keysF, c, c2, dLS]
      · intro k hk
        simp only [o_addI, ok_bind', x_asI]
        rw [cut_take _ _ (by omega)]
        rfl
    · obtain ⟨s4, s5, h⟩ := keys_loop n ns many (cellAt ns 28) many.toNat (by omega)
      simp [c, c2, rng1_eq many (by omega), h]
      simp [keysF, c, c2, dLS, keyB]
  · obtain ⟨s4, s5, h⟩ := keys_loop n ns many (cellAt ns 28) many.toNat (by omega)
    simp [c, rng1_eq many (by omega), h]
    simp [keysF, c, dLS, keyB]
theorem keys_len (ns : List Int) (many : Int) : (keysF ns many).length = many.toNat := by
  unfold keysF
  split <;> simp
/-! sorted, valid words -/
def okWord (w : Wd) : Prop := 1 ≤ w.length ∧ w.length ≤ 8 ∧ ∀ c ∈ w, 97 ≤ c ∧ c ≤ 122
instance (w : Wd) : Decidable (okWord w) := by unfold okWord; infer_instance
structure Keys (ks : List Wd) : Prop where
  len : ks.length ≤ 12
  word : ∀ w ∈ ks, okWord w
  srt : ks.Pairwise (· < ·)
theorem lt_app : ∀ (p : Wd) {a b : Wd}, a < b → p ++ a < p ++ b
  | [], _, _, h => h
  | c :: p, a, b, h => by
    rw [List.cons_append, List.cons_append, List.cons_lt_cons_iff]
    exact .inr ⟨rfl, lt_app p h⟩
theorem letC_mono : ∀ i j, i < j → j < 12 → letC i < letC j := by
  have h : ∀ j < 12, ∀ i < j, letC i < letC j := by decide
  exact fun i j h1 h2 => h j h2 i h1
theorem cabs_keys : ∀ m ≤ 8, (∀ w ∈ (List.range m).map fun k => cabs.take (k + 1), okWord w) ∧ ((List.range m).map fun k => cabs.take (k + 1)).Pairwise (· < ·) := by decide +kernel
theorem keys_ok (ns : List Int) (many : Int) (h0 : 0 ≤ many) (h : many ≤ 12) : Keys (keysF ns many) := by
  refine ⟨by rw [keys_len]; omega, ?_, ?_⟩
  · unfold keysF
    split
    · rename_i c
      exact (cabs_keys many.toNat (by omega)).1
    · intro w hw
      obtain ⟨k, hk, rfl⟩ := List.mem_map.mp hw
      rw [List.mem_range] at hk
      have a2 : (cellAt ns 28 % 4).toNat ≤ 3 := by omega
      have a1 : (cellAt ns (29 + k) % 5).toNat ≤ 4 := by omega
      refine ⟨by simp; omega, by simp; omega, fun c hc => ?_⟩
      simp only [List.append_assoc, List.mem_append, List.mem_singleton] at hc
      rcases hc with hc | hc | hc
      · have := List.mem_of_mem_take hc
        revert this; unfold preW; simp; omega
      · subst hc
        have : ∀ k < 12, 97 ≤ letC k ∧ letC k ≤ 122 := by decide
        exact this k (by omega)
      · have := List.mem_of_mem_take hc
        revert this; unfold tailW; simp; omega
  · unfold keysF
    split
    · rename_i c
      exact (cabs_keys many.toNat (by omega)).2
    · rw [List.pairwise_map]
      refine List.Pairwise.imp_of_mem ?_ List.pairwise_lt_range
      intro i j hi hj hij
      rw [List.append_assoc, List.append_assoc]
      refine lt_app _ ?_
      rw [List.singleton_append, List.singleton_append, List.cons_lt_cons_iff]
      rw [List.mem_range] at hj
      exact .inl (letC_mono i j hij (by omega))
end Sk

namespace Sk
open PySem PySem.Spec PyProof.Rows L2
inductive Tr where
  | nil | node (k : Wd) (l r : Tr)
  deriving DecidableEq
def dT : Tr → D
  | .nil => .none
  | .node k l r => .tuple [dS k, dT l, dT r]
def rowT : Tr → List Wd
  | .nil => []
  | .node k l r => rowT l ++ [k] ++ rowT r
def hgt : Tr → Nat
  | .nil => 0
  | .node _ l r => 1 + max (hgt l) (hgt r)
def sizeT : Tr → Nat
  | .nil => 0
  | .node _ l r => sizeT l + 1 + sizeT r
theorem row_len : ∀ t, (rowT t).length = sizeT t
  | .nil => rfl
  | .node k l r => by simp [rowT, sizeT, row_len l, row_len r]; omega
theorem hgt_size : ∀ t, hgt t ≤ sizeT t
  | .nil => Nat.le_refl _
  | .node k l r => by have := hgt_size l; have := hgt_size r; simp [hgt, sizeT]; omega
@[simp] theorem dT_nil : dT .nil = .none := (rfl)
@[simp] theorem dT_node (k : Wd) (l r : Tr) : dT (.node k l r) = .tuple [dS k, dT l, dT r] := (rfl)
@[simp] theorem isN_nil : isNone .none = true := (rfl)
@[simp] theorem isN_tup (l : List D) : isNone (.tuple l) = false := (rfl)
@[simp] theorem at3_0 (a b c : D) : atI [a, b, c] 0 = some a := (rfl)
@[simp] theorem at3_1 (a b c : D) : atI [a, b, c] 1 = some b := (rfl)
@[simp] theorem at3_2 (a b c : D) : atI [a, b, c] 2 = some c := (rfl)
@[simp] theorem at2_0 (a b : D) : atI [a, b] 0 = some a := (rfl)
@[simp] theorem at2_1 (a b : D) : atI [a, b] 1 = some b := (rfl)
theorem dLS_def (l : List Wd) : PyData.list (l.map dS) = dLS l := rfl
theorem atI_map {α β : Type} (f : α → β) (l : List α) (i : Int) : atI (l.map f) i = (atI l i).map f := by
  unfold atI
  rw [List.length_map]
  cases ixN l.length i with
  | none => rfl
  | some j => simp
theorem cutD_map {α β : Type} (f : α → β) (l : List α) (lo hi : Option Int) : cutD (l.map f) lo hi = (cutD l lo hi).map f := by
  unfold cutD
  rw [List.length_map, List.map_take, List.map_drop]
section
variable (l m : List Wd) (i : Int) (a b : List Int)
@[simp] theorem dLS_cat : opCat (dLS l) (dLS m) = if l.length + m.length ≤ 100000 then .ok (dLS (l ++ m)) else .bad := by simp [dLS, opCat]
@[simp] theorem dLS_len : opLen [dLS l] = .ok (.int l.length) := by simp [dLS, opLen]
@[simp] theorem dLS_ix : opIx (dLS l) (.int i) = rsO ((atI l i).map dS) := by simp only [dLS, opIx, atI_map]
@[simp] theorem dLS_sl (lo hi : Option Int) : opSlL (dLS l) lo hi = .ok (dLS (cutD l lo hi)) := by simp only [dLS, opSlL, cutD_map]
@[simp] theorem dLS_lst : lstR (dLS l) = .ok (l.map dS) := (rfl)
@[simp] theorem dLS_rev : opRev (dLS l) = .ok (dLS l.reverse) := by simp [dLS, opRev]
@[simp] theorem dLS_list : opList [dLS l] = .ok (dLS l) := (rfl)
@[simp] theorem dLI_cat : opCat (dLI a) (dLI b) = if a.length + b.length ≤ 100000 then .ok (dLI (a ++ b)) else .bad := by simp [dLI, opCat]
@[simp] theorem dLI_len : opLen [dLI a] = .ok (.int a.length) := by simp [dLI, opLen]
@[simp] theorem dLI_ix : opIx (dLI a) (.int i) = rsO ((atI a i).map .int) := by simp only [dLI, opIx, atI_map]
@[simp] theorem dLI_sl (lo hi : Option Int) : opSlL (dLI a) lo hi = .ok (dLI (cutD a lo hi)) := by simp only [dLI, opSlL, cutD_map]
@[simp] theorem dLI_lst : lstR (dLI a) = .ok (a.map .int) := (rfl)
@[simp] theorem dLI_rev : opRev (dLI a) = .ok (dLI a.reverse) := by simp [dLI, opRev]
@[simp] theorem dLI_list : opList [dLI a] = .ok (dLI a) := (rfl)
end
@[simp] theorem x_owLS {α : Type} (l : List Wd) (k : List D → Rs α) : owL (some (.ow (dLS l))) k = k (l.map dS) := (rfl)
@[simp] theorem x_owLI {α : Type} (l : List Int) (k : List D → Rs α) : owL (some (.ow (dLI l))) k = k (l.map .int) := (rfl)
@[simp] theorem x_lstBS {α : Type} (l : List Wd) (k : List D → Rs α) : lstB (dLS l) k = k (l.map dS) := (rfl)
@[simp] theorem x_lstBI {α : Type} (l : List Int) (k : List D → Rs α) : lstB (dLI l) k = k (l.map .int) := (rfl)
theorem dLS_one (k : Wd) : PyData.list [dS k] = dLS [k] := rfl
theorem dLS_nil : PyData.list [] = dLS [] := rfl
theorem r_row : ∀ (t : Tr) (n : Nat), hgt t < n → sizeT t ≤ 100000 → R_row_of n [dT t] = .ok (dLS (rowT t))
  | .nil, n + 1, _, _ => by simp [R_row_of, F_row_of, rowT, dLS]
  | .node k l r, n + 1, h, hs => by
    have h1 : hgt l < n := by simp [hgt] at h; omega
    have h2 : hgt r < n := by simp [hgt] at h; omega
    simp only [sizeT] at hs
    have e1 : sizeT l ≤ 99999 := by omega
    have e2 : sizeT l + 1 + sizeT r ≤ 100000 := hs
    simp [R_row_of, F_row_of, r_row l n h1 (by omega), r_row r n h2 (by omega), rowT, dLS_one, row_len, e1, e2]
def mirT : Tr → Tr
  | .nil => .nil
  | .node k l r => .node k (mirT r) (mirT l)
theorem r_mir : ∀ (t : Tr) (n : Nat), hgt t < n → R__law_mirrored n [dT t] = .ok (dT (mirT t))
  | .nil, n + 1, _ => by simp [R__law_mirrored, F__law_mirrored, mirT]
  | .node k l r, n + 1, h => by
    have h1 : hgt l < n := by simp [hgt] at h; omega
    have h2 : hgt r < n := by simp [hgt] at h; omega
    simp [R__law_mirrored, F__law_mirrored, r_mir l n h1, r_mir r n h2, mirT]
theorem mir_row : ∀ t, rowT (mirT t) = (rowT t).reverse
  | .nil => rfl
  | .node k l r => by simp [mirT, rowT, mir_row l, mir_row r]
theorem mir_hgt : ∀ t, hgt (mirT t) = hgt t
  | .nil => rfl
  | .node k l r => by simp [mirT, hgt, mir_hgt l, mir_hgt r, Nat.max_comm]
theorem mir_size : ∀ t, sizeT (mirT t) = sizeT t
  | .nil => rfl
  | .node k l r => by simp [mirT, sizeT, mir_size l, mir_size r]; omega
/-! equality of data -/
def okS (w : Wd) : Prop := ∀ c ∈ w, c < 1114112
theorem okWord.ok {w : Wd} (h : okWord w) : okS w := fun c hc => by have := (h.2.2 c hc).2; omega
mutual
theorem eqv_self : ∀ d : D, d.canLay0 = true → PyData.eqv d d = true
  | .none, _ => rfl
  | .bool b, _ => by simp [PyData.eqv]
  | .int b, _ => by simp [PyData.eqv]
  | .str b, _ => by simp [PyData.eqv]
  | .list l, h => by simp only [PyData.eqv]; exact eqvAll_self l (by simpa [PyData.canLay0] using h)
  | .tuple l, h => by simp only [PyData.eqv]; exact eqvAll_self l (by simpa [PyData.canLay0] using h)
  | .dict _, h => by simp [PyData.canLay0] at h
theorem eqvAll_self : ∀ l : List D, PyData.canLayAll0 l = true → PyData.eqvAll l l = true
  | [], _ => rfl
  | x :: l, h => by
    simp only [PyData.canLayAll0, Bool.and_eq_true] at h
    simp only [PyData.eqvAll, Bool.and_eq_true]
    exact ⟨eqv_self x h.1, eqvAll_self l h.2⟩
end
def Sh (d : D) : Prop := SeqAt.shaped d = true
theorem Sh.can {d : D} (h : Sh d) : d.canLay0 = true := SeqAt.canLay_of_shaped h
theorem sh_iff (d : D) : Sh d ↔ d.canLay0 = true ∧ d.depth ≤ 64 := by unfold Sh SeqAt.shaped; simp
theorem opEq_sh {a b : D} (h : Sh a) (h2 : Sh b) : opEq a b = .ok (.bool (PyData.eqv a b)) := by
  unfold Sh at h h2
  cases a <;> cases b <;> first | (simp only [opEq, h, h2, and_self, if_true]; done) | skip
  case int.int i j => simp [opEq, PyData.eqv]; rfl
  case str.str i j => simp only [opEq, PyData.eqv]; rw [Bool.beq_eq_decide_eq]
theorem opNe_sh {a b : D} (h : Sh a) (h2 : Sh b) : opNe a b = .ok (.bool (!PyData.eqv a b)) := by
  unfold Sh at h h2
  cases a <;> cases b <;> first | (simp only [opNe, h, h2, and_self, if_true]; done) | skip
  case int.int i j => simp [opNe, PyData.eqv]; rfl
  case str.str i j => simp only [opNe, PyData.eqv]; rw [Bool.beq_eq_decide_eq]
theorem eq_self {d : D} (h : Sh d) : opEq d d = .ok (.bool true) := by rw [opEq_sh h h, eqv_self d h.can]
theorem ne_self {d : D} (h : Sh d) : opNe d d = .ok (.bool false) := by rw [opNe_sh h h, eqv_self d h.can]; rfl
theorem can_S {w : Wd} (h : okS w) : (dS w).canLay0 = true := by
  simp only [dS, PyData.canLay0, PyData.strOk, List.all_toArray, List.all_eq_true, decide_eq_true_eq]
  exact h
theorem canAll {α : Type} {f : α → D} : ∀ {l : List α}, (∀ x ∈ l, (f x).canLay0 = true) → PyData.canLayAll0 (l.map f) = true
  | [], _ => rfl
  | x :: l, h => by
    simp only [List.map_cons, PyData.canLayAll0, Bool.and_eq_true]
    exact ⟨h x List.mem_cons_self, canAll fun y hy => h y (List.mem_cons_of_mem _ hy)⟩
theorem depAll {α : Type} {f : α → D} {n : Nat} : ∀ {l : List α}, (∀ x ∈ l, (f x).depth ≤ n) → PyData.depthAll (l.map f) ≤ n
  | [], _ => Nat.zero_le _
  | x :: l, h => by
    simp only [List.map_cons, PyData.depthAll]
    exact Nat.max_le.mpr ⟨h x List.mem_cons_self, depAll fun y hy => h y (List.mem_cons_of_mem _ hy)⟩
theorem sh_S {w : Wd} (h : okS w) : Sh (dS w) := (sh_iff _).mpr ⟨can_S h, by simp [dS, PyData.depth]⟩
theorem sh_I (i : Int) : Sh (.int i) := (sh_iff _).mpr ⟨rfl, by simp [PyData.depth]⟩
theorem sh_LS {l : List Wd} (h : ∀ w ∈ l, okS w) : Sh (dLS l) := (sh_iff _).mpr ⟨by simp only [dLS, PyData.canLay0]; exact canAll fun x hx => can_S (h x hx), by
  simp only [dLS, PyData.depth]
  have := depAll (f := dS) (n := 0) (l := l) fun x _ => by simp [dS, PyData.depth]
  omega⟩
theorem sh_LI (l : List Int) : Sh (dLI l) := (sh_iff _).mpr ⟨by simp only [dLI, PyData.canLay0]; exact canAll fun x hx => rfl, by
  simp only [dLI, PyData.depth]
  have := depAll (f := PyData.int) (n := 0) (l := l) fun x _ => by simp [PyData.depth]
  omega⟩
def okT (t : Tr) : Prop := ∀ w ∈ rowT t, okS w
theorem can_T : ∀ t, okT t → (dT t).canLay0 = true
  | .nil, _ => rfl
  | .node k l r, h => by
    have h1 : okT l := fun w hw => h w (by simp [rowT, hw])
    have h2 : okT r := fun w hw => h w (by simp [rowT, hw])
    simp [PyData.canLay0, PyData.canLayAll0, can_T l h1, can_T r h2, can_S (h k (by simp [rowT]))]
theorem dep_T : ∀ t, (dT t).depth ≤ hgt t
  | .nil => Nat.le_refl _
  | .node k l r => by
    have h1 := dep_T l
    have h2 := dep_T r
    simp [PyData.depth, PyData.depthAll, hgt, dS]
    omega
theorem sh_T {t : Tr} (h : okT t) (h2 : hgt t ≤ 64) : Sh (dT t) := (sh_iff _).mpr ⟨can_T t h, by have := dep_T t; omega⟩
/-- a drawn tree -/
theorem r_tree : ∀ (m : Nat) (n : Nat) (ks : List Wd) (cell : Int) (first : Nat), m + 1 < n → first + m ≤ ks.length →
    ∃ t, R__law_tree n [dLS ks, .int cell, .int first, .int (first + m)] = .ok (dT t) ∧ rowT t = (ks.drop first).take m := by
  intro m
  induction m using Nat.strongRecOn with
  | ind m ih =>
    intro n ks cell first hn hl
    obtain ⟨n, rfl⟩ : ∃ k, n = k + 1 := ⟨n - 1, by omega⟩
    by_cases c : m = 0
    · subst c
      exact ⟨.nil, by simp [R__law_tree, F__law_tree], by simp [rowT]⟩
    · have hmix : ∀ c j, R__law_mix n [.int c, .int j] = .ok (.int (mixF c j)) := fun c j => by
        obtain ⟨n, rfl⟩ : ∃ k, n = k + 1 := ⟨n - 1, by omega⟩
        exact r_mix n c j
      have key : ∀ p : Nat, first ≤ p → p < first + m → ∃ k l r, atI ks (p : Int) = some k ∧ R__law_tree n [dLS ks, .int cell, .int first, .int p] = .ok (dT l) ∧ R__law_tree n [dLS ks, .int cell, .int (p + 1), .int (first + m)] = .ok (dT r) ∧
          rowT (.node k l r) = (ks.drop first).take m := by
        intro p h1 h2
        obtain ⟨l, el, rl⟩ := ih (p - first) (by omega) n ks cell first (by omega) (by omega)
        obtain ⟨r, er, rr⟩ := ih (first + m - (p + 1)) (by omega) n ks cell (p + 1) (by omega) (by omega)
        have e1 : ((first : Int) + ((p - first : Nat) : Int)) = p := by omega
        have e2 : (((p + 1 : Nat) : Int) + ((first + m - (p + 1) : Nat) : Int)) = first + m := by omega
        have e3 : ((p + 1 : Nat) : Int) = (p : Int) + 1 := by omega
        rw [e1] at el
        rw [e2, e3] at er
        have hp : p < ks.length := by omega
        refine ⟨ks[p], l, r, by rw [atI_nat (by omega)]; simp [hp], el, er, ?_⟩
        simp only [rowT, rl, rr]
        have : (ks.drop first).take m = (ks.drop first).take (p - first) ++ ([ks[p]] ++ (ks.drop (p + 1)).take (first + m - (p + 1))) := by
          have e4 : m = (p - first) + (1 + (first + m - (p + 1))) := by omega
          conv => lhs; rw [e4]
          rw [List.take_add, List.drop_drop, show first + (p - first) = p by omega, List.take_add, List.drop_drop]
          congr 2
          rw [List.take_one, List.head?_drop, List.getElem?_eq_getElem hp]; rfl
        rw [this, List.append_assoc]
      have c2 : (0 : Int) < m := by omega
      have c3 : ¬ ((first : Int) = first + m) := by omega
      have z1 := Int.emod_nonneg (mixF cell (13 * (first : Int) + (first + m)) / 7) (b := m) (by omega)
      have z2 := Int.emod_lt_of_pos (mixF cell (13 * (first : Int) + (first + m)) / 7) c2
      have k13 : cmul 13 (first : Int) = true := cmul_l (by decide) (by decide)
      have c4 : (first : Int) < first + m := by omega
      have e5 : (first : Int) + m - first = m := by omega
      have c5 : 0 < m := by omega
      by_cases d1 : cell % 5 = 1
      · obtain ⟨k, l, r, h1, h2, h3, h4⟩ := key first (Nat.le_refl _) (by omega)
        refine ⟨.node k l r, ?_, h4⟩
        simp [R__law_tree, F__law_tree, hmix, c, c2, c3, c4, e5, c5, k13, d1, h1, h2, h3]
      · by_cases d2 : cell % 5 = 2
        · obtain ⟨k, l, r, h1, h2, h3, h4⟩ := key (first + m - 1) (by omega) (by omega)
          have e6 : ((first + m - 1 : Nat) : Int) = (first : Int) + m - 1 := by omega
          rw [e6] at h1 h2 h3
          have h3' : R__law_tree n [dLS ks, .int cell, .int (first + m), .int (first + m)] = .ok (dT r) := by simpa using h3
          refine ⟨.node k l r, ?_, h4⟩
          simp [R__law_tree, F__law_tree, hmix, c, c2, c3, c4, e5, c5, k13, d1, d2, h1, h2, h3']
        · obtain ⟨p, hp⟩ : ∃ p : Nat, (first : Int) + mixF cell (13 * (first : Int) + (first + m)) / 7 % m = p := ⟨((first : Int) + mixF cell (13 * (first : Int) + (first + m)) / 7 % m).toNat, by omega⟩
          obtain ⟨k, l, r, h1, h2, h3, h4⟩ := key p (by omega) (by omega)
          refine ⟨.node k l r, ?_, h4⟩
          simp [R__law_tree, F__law_tree, hmix, c, c2, c3, c4, e5, c5, k13, d1, d2, hp, h1, h2, h3]
/-! how a law begins -/
theorem start12 (ns : List Int) : ∃ (m : Nat) (ks : List Wd), manyF (cellAt ns 0) 12 = m ∧ m ≤ 12 ∧ keysF ns m = ks ∧ Keys ks ∧ ks.length = m := by
  have hm := many_rng (cellAt ns 0) 12 (by decide)
  obtain ⟨m, hm0⟩ : ∃ m : Nat, manyF (cellAt ns 0) 12 = m := ⟨(manyF (cellAt ns 0) 12).toNat, by omega⟩
  rw [hm0] at hm
  exact ⟨m, keysF ns m, hm0, by omega, rfl, keys_ok ns m (by omega) (by omega), by rw [keys_len]; omega⟩
theorem tree0 (n : Nat) {ks : List Wd} (m : Nat) (hl : ks.length = m) (hn : m + 1 < n) (cell : Int) : ∃ t, R__law_tree n [dLS ks, .int cell, .int 0, .int m] = .ok (dT t) ∧ rowT t = ks ∧ sizeT t = m ∧ hgt t ≤ m := by
  obtain ⟨t, ht, hr⟩ := r_tree m n ks cell 0 hn (by omega)
  have hr' : rowT t = ks := by rw [hr, List.drop_zero, List.take_of_length_le (by omega)]
  have hz : sizeT t = m := by rw [← row_len, hr', hl]
  exact ⟨t, by simpa using ht, hr', hz, by have := hgt_size t; omega⟩
theorem Keys.oks {ks : List Wd} (h : Keys ks) : ∀ w ∈ ks, okS w := fun w hw => (h.word w hw).ok
theorem Keys.shL {ks : List Wd} (h : Keys ks) : Sh (dLS ks) := sh_LS h.oks
theorem rng1_2 : rng1 (.int 2) = .ok [.int 0, .int 1] := rfl
@[simp] theorem loopF_nil (asg : D → SEnv → Rs SEnv) (body : SEnv → Rs Fl) (env : SEnv) : loopF asg body [] env = .ok (.nx env) := (rfl)
theorem loopF_cons (asg : D → SEnv → Rs SEnv) (body : SEnv → Rs Fl) (d : D) (ds : List D) (env : SEnv) : loopF asg body (d :: ds) env = (asg d env).bind fun env1 => (body env1).bind fun r => match r with
    | .nx e => loopF asg body ds e
    | .ct e => loopF asg body ds e
    | .bk e => .ok (.nx e)
    | .rt d => .ok (.rt d) := rfl
@[simp] theorem isi_list (l : List D) : opIsi "list" (.list l) = .ok (.bool true) := (rfl)
@[simp] theorem isi_listS (l : List Wd) : opIsi "list" (dLS l) = .ok (.bool true) := (rfl)
@[simp] theorem isi_listI (l : List Int) : opIsi "list" (dLI l) = .ok (.bool true) := (rfl)
@[simp] theorem isi_str (l : Wd) : opIsi "str" (dS l) = .ok (.bool true) := (rfl)
@[simp] theorem isi_int (l : Int) : opIsi "int" (.int l) = .ok (.bool true) := (rfl)
@[simp] theorem isi_boolI (l : Int) : opIsi "bool" (.int l) = .ok (.bool false) := (rfl)
@[simp] theorem isi_tup (l : List D) : opIsi "tuple" (.tuple l) = .ok (.bool true) := (rfl)
theorem all_true {α : Type} (l : List α) : opAll [.list (l.map fun _ => .bool true)] = .ok (.bool true) := by
  have : (l.map fun _ => PyData.bool true) = (l.map fun _ => true).map PyData.bool := by rw [List.map_map]; rfl
  rw [this]
  have e : PyData.list ((l.map fun _ => true).map PyData.bool) = dLB (l.map fun _ => true) := rfl
  rw [e, o_all]
  simp
/-- all([isinstance(word, str) for word in found]) -/
theorem lc_strs (l : List Wd) : mapF (fun _ => .ok true) (fun d => opIsi "str" d) (l.map dS) = .ok (l.map fun _ => .bool true) := mapF_all dS (fun _ => .bool true) l fun x _ => rfl
end Sk

namespace Sk
open PySem PySem.Spec PyProof.Rows L2
def lettersW : Wd := (List.range 26).map (· + 97)
theorem lit_letters : (PyData.str "abcdefghijklmnopqrstuvwxyz") = dS lettersW := by unfold dS; congr 1
theorem mem_letters (c : Nat) : c ∈ lettersW ↔ 97 ≤ c ∧ c ≤ 122 := by
  unfold lettersW
  simp only [List.mem_map, List.mem_range]
  constructor
  · rintro ⟨a, h, rfl⟩; omega
  · intro h; exact ⟨c - 97, by omega, by omega⟩
@[simp] theorem in_sign (c : Nat) (z : Wd) : opIn (dS [c]) (dS z) = .ok (.bool (decide (c ∈ z))) := (rfl)
theorem strsOf_dS : ∀ l : List Wd, strsOf (l.map dS) = some (l.map fun w => ⟨w.toArray⟩)
  | [] => rfl
  | w :: l => by rw [List.map_cons]; unfold dS strsOf; rw [show List.map (fun l => PyData.str { cps := l.toArray }) l = l.map dS from rfl, strsOf_dS l]; rfl
theorem inB_dS (w : Wd) (l : List Wd) : inB (dS w) (l.map dS) = some (decide (w ∈ l)) := by
  show (strsOf (l.map dS)).map _ = _
  rw [strsOf_dS]
  simp only [Option.map_some]
  congr 1
  apply decide_eq_decide.mpr
  simp only [List.mem_map]
  constructor
  · rintro ⟨a, h, e⟩; rw [(strEq _ _).mp e] at h; exact h
  · intro h; exact ⟨w, h, rfl⟩
@[simp] theorem in_dLS (w : Wd) (l : List Wd) : opIn (dS w) (dLS l) = .ok (.bool (decide (w ∈ l))) := by
  show rsB (inB (dS w) (l.map dS)) = _
  rw [inB_dS]; rfl
@[simp] theorem ni_dLS (w : Wd) (l : List Wd) : opNi (dS w) (dLS l) = .ok (.bool (!decide (w ∈ l))) := by
  show rsB ((inB (dS w) (l.map dS)).map (!·)) = _
  rw [inB_dS]; rfl
theorem all_dLB (l : List Bool) : opAll [.list (l.map .bool)] = .ok (.bool (l.all id)) := o_all l
/-! is_word -/
def isL (c : Nat) : Bool := decide (97 ≤ c ∧ c ≤ 122)
def wordB (w : Wd) : Bool := decide (1 ≤ w.length) && decide (w.length ≤ 8) && w.all isL
theorem wordB_iff (w : Wd) : wordB w = true ↔ okWord w := by
  unfold wordB okWord isL
  simp [and_assoc]
theorem r_is_word (n : Nat) (w : Wd) (h : w.length ≤ 100000) : R_is_word (n + 1) [dS w] = .ok (.bool (wordB w)) := by
  have e : mapF (fun _ => .ok true) (fun d => opIn d (dS lettersW)) (w.map fun c => dS [c]) = .ok (w.map fun c => .bool (isL c)) := by
    refine mapF_all (fun c => dS [c]) _ w fun c _ => ?_
    rw [in_sign, decide_eq_decide.mpr (mem_letters c)]; rfl
  have e2 : opAll [.list (w.map fun c => .bool (isL c))] = .ok (.bool (w.all isL)) := by
    have := all_dLB (w.map isL)
    rw [List.map_map, List.all_map] at this
    exact this
  by_cases c1 : 1 ≤ w.length
  · by_cases c2 : w.length ≤ 8
    · have c1' : (1 : Int) ≤ w.length := by omega
      have c2' : (w.length : Int) ≤ 8 := by omega
      have c3 : ¬ (8 : Int) < w.length := by omega
      have c4 : ¬ w = [] := fun z => by subst z; simp at c1
      simp [R_is_word, F_is_word, h, c1', c2', lit_letters, e, e2, wordB, c1, c2, c4]
    · have c1' : (1 : Int) ≤ w.length := by omega
      have c2' : ¬ (w.length : Int) ≤ 8 := by omega
      simp [R_is_word, F_is_word, h, c1', c2', lit_letters, e, e2, wordB, c1, c2]
  · have c1' : ¬ (1 : Int) ≤ w.length := by omega
    simp [R_is_word, F_is_word, h, c1', lit_letters, e, e2, wordB, c1]
/-! are_keys -/
def keysB (ks : List Wd) : Bool := decide (ks.length ≤ 12) && ks.all wordB && (List.range (ks.length - 1)).all fun k => decide (ks.getD k [] < ks.getD (k + 1) [])
theorem lt_trans' {a b c : Wd} (h : a < b) (h2 : b < c) : a < c := List.lt_trans h h2
theorem pair_adj : ∀ l : List Wd, (∀ k, k + 1 < l.length → l.getD k [] < l.getD (k + 1) []) → l.Pairwise (· < ·)
  | [], _ => List.Pairwise.nil
  | [a], _ => by simp
  | a :: b :: l, h => by
    have ih := pair_adj (b :: l) fun k hk => by
      have := h (k + 1) (by simp only [List.length_cons] at hk ⊢; omega)
      simpa using this
    rw [List.pairwise_cons]
    refine ⟨fun x hx => ?_, ih⟩
    have h0 : a < b := by simpa using h 0 (by simp)
    rcases List.mem_cons.mp hx with rfl | hx
    · exact h0
    · exact lt_trans' h0 ((List.pairwise_cons.mp ih).1 x hx)
theorem pair_get {l : List Wd} (h : l.Pairwise (· < ·)) {i j : Nat} (hij : i < j) (hj : j < l.length) : l.getD i [] < l.getD j [] := by
  rw [List.getD_eq_getElem?_getD, List.getD_eq_getElem?_getD, List.getElem?_eq_getElem hj, List.getElem?_eq_getElem (by omega)]
  exact List.pairwise_iff_getElem.mp h i j _ hj hij
theorem keysB_iff (ks : List Wd) : keysB ks = true ↔ Keys ks := by
  unfold keysB
  simp only [Bool.and_eq_true, decide_eq_true_eq, List.all_eq_true, List.mem_range]
  constructor
  · rintro ⟨⟨h1, h2⟩, h3⟩
    exact ⟨h1, fun w hw => (wordB_iff w).mp (h2 w hw), pair_adj ks fun k hk => h3 k (by omega)⟩
  · rintro ⟨h1, h2, h3⟩
    exact ⟨⟨h1, fun w hw => (wordB_iff w).mpr (h2 w hw)⟩, fun k hk => pair_get h3 (Nat.lt_succ_self k) (by omega)⟩
theorem r_are_keys (n : Nat) (ks : List Wd) (h : ks.length ≤ 100000) (hw : ∀ w ∈ ks, w.length ≤ 100000) : R_are_keys (n + 2) [dLS ks] = .ok (.bool (keysB ks)) := by
  have e : mapF (fun _ => .ok true) (fun d => R_is_word (n + 1) [d]) (ks.map dS) = .ok (ks.map fun w => .bool (wordB w)) := mapF_all dS _ ks fun w h => r_is_word n w (hw w h)
  have e2 : opAll [.list (ks.map fun w => .bool (wordB w))] = .ok (.bool (ks.all wordB)) := by
    have := all_dLB (ks.map wordB)
    rw [List.map_map, List.all_map] at this
    exact this
  have e3 : rng2 (.int 1) (.int ks.length) = .ok ((List.range (ks.length - 1)).map fun k : Nat => .int (1 + (k : Int))) := by
    rw [rng2_eq _ _ (by omega)]
    congr 3
    omega
  by_cases c : ks.length ≤ 12
  · have c' : ¬ (12 : Int) < ks.length := by omega
    by_cases d : ks.all wordB = true
    · have f : ∀ k ∈ List.range (ks.length - 1), (fun d => ((opSub d (PyData.int 1)).bind fun b => opIx (dLS ks) b).bind fun a => (opIx (dLS ks) d).bind fun b => opLt a b) (PyData.int (1 + (k : Int))) = .ok (.bool (decide (ks.getD k [] < ks.getD (k + 1) []))) := by
        intro k hk
        rw [List.mem_range] at hk
        have a1 : k < ks.length := by omega
        have a2 : k + 1 < ks.length := by omega
        have z1 : (1 : Int) + k - 1 = k := by omega
        have z2 : ((1 : Int) + k).toNat = k + 1 := by omega
        simp only [o_sub, ok_bind', z1, dLS_ix]
        rw [atI_nat (by omega), atI_nat (by omega), z2, Int.toNat_natCast, List.getElem?_eq_getElem a1, List.getElem?_eq_getElem a2]
        simp [a1, a2]
      have h1 : ks.length ≤ 100001 := by omega
      simp [R_are_keys, F_are_keys, h, c', e, e2, d, e3, h1]
      rw [mapF_all (fun k : Nat => PyData.int (1 + (k : Int))) _ _ f]
      have g := all_dLB ((List.range (ks.length - 1)).map fun k => decide (ks.getD k [] < ks.getD (k + 1) []))
      rw [List.map_map, List.all_map] at g
      simp only [Function.comp_def] at g
      simp only [ok_bind', g]
      simp [keysB, d, c]
    · simp [R_are_keys, F_are_keys, h, c', e, e2, d]
      simp [keysB, d]
  · have c' : (12 : Int) < ks.length := by omega
    simp [R_are_keys, F_are_keys, h, c']
    simp [keysB, c]
/-! the three that ask -/
theorem r_ask_keys (n : Nat) (ks : List Wd) (h : ks.length ≤ 100000) (hw : ∀ w ∈ ks, w.length ≤ 100000) : R_ask_keys (n + 3) [dLS ks] = if keysB ks = true then .ok .none else .exc "NoKeys" := by
  have e := r_are_keys n ks h hw
  cases c : keysB ks <;> simp [R_ask_keys, F_ask_keys, e, c]
theorem ask_keys_ok (n : Nat) {ks : List Wd} (h : Keys ks) : R_ask_keys (n + 3) [dLS ks] = .ok .none := by
  rw [r_ask_keys n ks (by have := h.len; omega) (fun w hw => by have := (h.word w hw).2.1; omega), if_pos ((keysB_iff ks).mpr h)]
theorem eqvAll_dS : ∀ a b : List Wd, PyData.eqvAll (a.map dS) (b.map dS) = decide (a = b)
  | [], [] => rfl
  | [], _ :: _ => by simp [PyData.eqvAll]
  | _ :: _, [] => by simp [PyData.eqvAll]
  | x :: a, y :: b => by
    have e : PyData.eqv (dS x) (dS y) = decide (x = y) := by
      unfold dS
      simp only [PyData.eqv]
      rw [Bool.beq_eq_decide_eq, decide_eq_decide.mpr (strEq x y)]
    simp [PyData.eqvAll, eqvAll_dS a b, e]
theorem eqv_dLS (a b : List Wd) : PyData.eqv (dLS a) (dLS b) = decide (a = b) := by
  simp only [dLS, PyData.eqv]
  exact eqvAll_dS a b
theorem r_ask_tree (n : Nat) (ks : List Wd) (t : Tr) (hn : hgt t + 2 ≤ n) (hs : sizeT t ≤ 100000) (h : ∀ w ∈ ks, okS w) (h2 : okT t) : R_ask_tree n [dLS ks, dT t] = if rowT t = ks then .ok .none else .exc "NoTree" := by
  obtain ⟨n, rfl⟩ : ∃ k, n = k + 1 := ⟨n - 1, by omega⟩
  have e := r_row t n (by omega) hs
  have s := opNe_sh (sh_LS h2) (sh_LS h)
  rw [eqv_dLS] at s
  by_cases c : rowT t = ks
  · rw [c] at e s
    simp [R_ask_tree, F_ask_tree, e, s, c]
  · simp [R_ask_tree, F_ask_tree, e, s, c]
theorem ask_tree_ok (n : Nat) {ks : List Wd} {t : Tr} (h : Keys ks) (hr : rowT t = ks) (hn : hgt t + 2 ≤ n) : R_ask_tree n [dLS ks, dT t] = .ok .none := by
  rw [r_ask_tree n ks t hn (by rw [← row_len, hr]; have := h.len; omega) h.oks (fun w hw => h.oks w (by rw [← hr]; exact hw)), if_pos hr]
/-! seeking -/
def soughtF : Tr → Wd → Nat × Bool
  | .nil, _ => (0, false)
  | .node k l r, w => if k = w then (1, true) else if w < k then ((soughtF l w).1 + 1, (soughtF l w).2) else ((soughtF r w).1 + 1, (soughtF r w).2)
theorem sought_loop (w : Wd) : ∀ (t : Tr) (f : Nat) (c : Int), hgt t < f → whileN (bE (e2 opIsN (eV 0) (eC .none))) B1_sought f [.sh (dT t), .sh (dS w), .sh (.int c)] =
    if (soughtF t w).2 = true then .ok (.rt (.tuple [.int (c + (soughtF t w).1), .bool true])) else .ok (.nx [.sh .none, .sh (dS w), .sh (.int (c + (soughtF t w).1))])
  | .nil, f + 1, c, _ => by simp [whileN, soughtF]
  | .node k l r, f + 1, c, h => by
    have h1 : hgt l < f := by simp [hgt] at h; omega
    have h2 : hgt r < f := by simp [hgt] at h; omega
    have i1 := sought_loop w l f (c + 1) h1
    have i2 := sought_loop w r f (c + 1) h2
    have e1 : c + 1 + ((soughtF l w).1 : Int) = c + (((soughtF l w).1 : Int) + 1) := by omega
    have e2 : c + 1 + ((soughtF r w).1 : Int) = c + (((soughtF r w).1 : Int) + 1) := by omega
    by_cases d : k = w
    · simp [whileN, soughtF, x_B1_sought, d]
    · by_cases d2 : w < k
      · simp [whileN, soughtF, x_B1_sought, d, d2, i1, e1]
      · simp [whileN, soughtF, x_B1_sought, d, d2, i2, e2]
theorem r_sought (n : Nat) (t : Tr) (w : Wd) (h : hgt t < 1000) : R_sought (n + 1) [dT t, dS w] = .ok (.tuple [.int (soughtF t w).1, .bool (soughtF t w).2]) := by
  have e := sought_loop w t 1000 0 h
  cases c : (soughtF t w).2 <;> simp [R_sought, F_sought, e, c]
/-- the two answers of seek -/
def lessN (ks : List Wd) (w : Wd) : Nat := (ks.filter fun k => decide (k < w)).length
def seekD (ks : List Wd) (t : Tr) (w : Wd) : D := if (soughtF t w).2 = true then .tuple [dS [107, 101, 121], .int (soughtF t w).1] else .tuple [dS [103, 97, 112], .int (lessN ks w), .int (soughtF t w).1]
theorem lit_key : (PyData.str "key") = dS [107, 101, 121] := by unfold dS; congr 1
theorem lit_gap : (PyData.str "gap") = dS [103, 97, 112] := by unfold dS; congr 1
theorem less_lc (ks : List Wd) (w : Wd) : mapF (fun d => (opLt d (dS w)).bind asB) (fun d => .ok d) (ks.map dS) = .ok ((ks.filter fun k => decide (k < w)).map dS) := mapF_list dS (fun k => decide (k < w)) dS ks fun x _ => ⟨rfl, fun _ => rfl⟩
theorem less_lc' (ks : List Wd) (w : Wd) {f : D → Rs D} (hf : ∀ d, f d = .ok d) : mapF (fun d => (opLt d (dS w)).bind asB) f (ks.map dS) = .ok ((ks.filter fun k => decide (k < w)).map dS) := by
  have : f = fun d => .ok d := funext hf
  rw [this]
  exact less_lc ks w
theorem r_seek (n : Nat) {ks : List Wd} {t : Tr} (w : Wd) (hk : Keys ks) (hr : rowT t = ks) (hh : hgt t ≤ 12) (hn : 15 ≤ n) : R_seek n [dLS ks, dT t, dS w] = .ok (seekD ks t w) := by
  obtain ⟨n, rfl⟩ : ∃ k, n = k + 14 := ⟨n - 14, by omega⟩
  have e1 := ask_keys_ok (n + 10) hk
  have e2 := ask_tree_ok (n + 13) hk hr (by omega)
  have e3 := r_sought (n + 12) t w (by omega)
  have l1 : ks.length ≤ 100000 := by have := hk.len; omega
  have l2 : (ks.filter fun k => decide (k < w)).length ≤ 100000 := Nat.le_trans (List.length_filter_le _ _) l1
  have e4 := less_lc ks w
  cases c : (soughtF t w).2
  · simp [R_seek, F_seek, e1, e2, e3, c, seekD, lit_key, lit_gap, l1, lessN]
    simp [less_lc']
  · simp [R_seek, F_seek, e1, e2, e3, c, seekD, lit_key, lit_gap, l1, lessN]
/-- in a tree with a sorted row it is found where it stands in the row -/
theorem sought_mem (w : Wd) : ∀ t : Tr, (rowT t).Pairwise (· < ·) → ((soughtF t w).2 = true ↔ w ∈ rowT t)
  | .nil, _ => by simp [soughtF, rowT]
  | .node k l r, h => by
    simp only [rowT, List.append_assoc, List.singleton_append, List.pairwise_append, List.pairwise_cons, List.mem_cons] at h
    obtain ⟨h1, ⟨h2, h3⟩, h4⟩ := h
    have il := sought_mem w l h1
    have ir := sought_mem w r h3
    simp only [rowT, List.append_assoc, List.singleton_append, List.mem_append, List.mem_cons]
    unfold soughtF
    by_cases d : k = w
    · simp [d]
    · rw [if_neg d]
      by_cases d2 : w < k
      · rw [if_pos d2]
        simp only [il]
        constructor
        · exact fun h => .inl h
        · rintro (h | h | h)
          · exact h
          · exact absurd h.symm d
          · exact absurd (lt_trans' d2 (h2 w h)) (List.lt_irrefl _)
      · rw [if_neg d2]
        simp only [ir]
        constructor
        · exact fun h => .inr (.inr h)
        · rintro (h | h | h)
          · exact absurd (h4 w h k (.inl rfl)) d2
          · exact absurd h.symm d
          · exact h
theorem r_whole (n : Nat) (i : Int) : R__law_whole (n + 1) [.int i] = .ok (.bool true) := by simp [R__law_whole, F__law_whole]
end Sk

namespace Sk
open PySem PySem.Spec PyProof.Rows L2
/-! index -/
theorem findI_app {α : Type} (p : α → Bool) : ∀ (a : List α) (k : α) (b : List α), (∀ x ∈ a, p x = false) → p k = true → findI p (a ++ k :: b) = some a.length
  | [], k, b, _, h => by simp [findI, h]
  | x :: a, k, b, h0, h => by
    have h1 := h0 x List.mem_cons_self
    rw [List.cons_append]
    unfold findI
    rw [h1, findI_app p a k b (fun y hy => h0 y (List.mem_cons_of_mem _ hy)) h]
    rfl
theorem index_dS (a : List Wd) (k : Wd) (b : List Wd) (h : k ∉ a) : opIndex ((a ++ k :: b).map dS) [dS k] = .ok (.int a.length) := by
  have e : ixB (dS k) ((a ++ k :: b).map dS) = some a.length := by
    show (strsOf ((a ++ k :: b).map dS)).bind _ = _
    rw [strsOf_dS]
    show findI _ ((a ++ k :: b).map fun w => (⟨w.toArray⟩ : Str)) = _
    rw [List.map_append, List.map_cons]
    have := findI_app (fun y : Str => decide (y = ⟨k.toArray⟩)) (a.map fun w => (⟨w.toArray⟩ : Str)) ⟨k.toArray⟩ (b.map fun w => (⟨w.toArray⟩ : Str)) (fun x hx => by
      obtain ⟨w, hw, rfl⟩ := List.mem_map.mp hx
      refine decide_eq_false fun z => h ?_
      rw [← (strEq w k).mp z]; exact hw) (decide_eq_true rfl)
    rw [List.length_map] at this
    exact this
  show rsN _ = _
  rw [e]; rfl
theorem nodup_of_srt {l : List Wd} (h : l.Pairwise (· < ·)) : l.Nodup := h.imp fun {a b} hab e => by subst e; exact List.lt_irrefl _ hab
/-- a node's row: what stands where -/
theorem node_row {k : Wd} {l r : Tr} (h : (rowT (.node k l r)).Nodup) : k ∉ rowT l ∧ (rowT l).Nodup ∧ (rowT r).Nodup := by
  simp only [rowT, List.append_assoc, List.singleton_append, List.nodup_append, List.nodup_cons] at h
  obtain ⟨h1, ⟨_, h2⟩, h3⟩ := h
  exact ⟨fun z => h3 k z k List.mem_cons_self rfl, h1, h2⟩
theorem row_split (k : Wd) (l r : Tr) : rowT (.node k l r) = rowT l ++ k :: rowT r := by simp [rowT]
theorem row_take (k : Wd) (l r : Tr) : (rowT (.node k l r)).take (rowT l).length = rowT l := by rw [row_split, List.take_left']; rfl
theorem row_drop (k : Wd) (l r : Tr) : (rowT (.node k l r)).drop ((rowT l).length + 1) = rowT r := by
  rw [row_split, show rowT l ++ k :: rowT r = (rowT l ++ [k]) ++ rowT r by simp, List.drop_left' (by simp)]
@[simp] theorem isi_tupN : opIsi "tuple" .none = .ok (.bool false) := (rfl)
theorem isn_T (k : Wd) (l r : Tr) : isNone (dT (.node k l r)) = false := rfl
theorem r_is_tree : ∀ (t : Tr) (n : Nat), hgt t < n → (rowT t).Nodup → (∀ w ∈ rowT t, okS w) → R__law_is_tree n [dT t, dLS (rowT t)] = .ok (.bool true)
  | .nil, n + 1, _, _, _ => by
    have e : opEq (dLS []) (.list []) = .ok (.bool true) := eq_self (sh_LS (by simp))
    simp [R__law_is_tree, F__law_is_tree, rowT, e]
  | .node k l r, n + 1, h, hn, ho => by
    have h1 : hgt l < n := by simp [hgt] at h; omega
    have h2 : hgt r < n := by simp [hgt] at h; omega
    obtain ⟨n1, n2, n3⟩ := node_row hn
    have il := r_is_tree l n h1 n2 fun w hw => ho w (by rw [row_split]; simp [hw])
    have ir := r_is_tree r n h2 n3 fun w hw => ho w (by rw [row_split]; simp [hw])
    have e1 : opIndex ((rowT (.node k l r)).map dS) [dS k] = .ok (.int (rowT l).length) := by rw [row_split]; exact index_dS _ _ _ n1
    have m : k ∈ rowT (.node k l r) := by rw [row_split]; simp
    have z1 := cut_take (rowT (.node k l r)) ((rowT l).length : Int) (by omega)
    have z2 := cut_drop (rowT (.node k l r)) ((rowT l).length + 1 : Int) (by omega)
    rw [Int.toNat_natCast, row_take] at z1
    rw [show ((rowT l).length + 1 : Int).toNat = (rowT l).length + 1 by omega, row_drop] at z2
    generalize rowT (.node k l r) = ks at *
    simp [R__law_is_tree, F__law_is_tree, m, e1, z1, z2, il, ir]
end Sk

namespace Sk
open PySem PySem.Spec PyProof.Rows L2
/-! weights -/
def wOk (w : Int) : Bool := decide (0 ≤ w ∧ w ≤ 1000000)
structure Wts (n : Nat) (hs ms : List Int) : Prop where
  hl : hs.length = n
  ml : ms.length = n + 1
  hr : ∀ w ∈ hs, 0 ≤ w ∧ w ≤ 1000000
  mr : ∀ w ∈ ms, 0 ≤ w ∧ w ≤ 1000000
theorem askw_loop (r : List D → Rs D) (a b c : D) : ∀ (l : List Int) (s : Sl), ∃ s', loopF (gS1 3) (B1_ask_weights r) (l.map .int) [.sh a, .sh b, .sh c, s] = if l.all wOk = true then .ok (.nx [.sh a, .sh b, .sh c, s']) else .exc "NoWeights"
  | [], s => ⟨s, by simp⟩
  | x :: l, s => by
    obtain ⟨s', ih⟩ := askw_loop r a b c l (.sh (.int x))
    refine ⟨s', ?_⟩
    by_cases h1 : 0 ≤ x
    · by_cases h2 : x ≤ 1000000
      · have hx : wOk x = true := decide_eq_true ⟨h1, h2⟩
        simp [loopF_cons, x_B1_ask_weights, h1, h2, ih, hx]
      · have hx : wOk x = false := decide_eq_false fun z => h2 z.2
        simp [loopF_cons, x_B1_ask_weights, h1, h2, hx]
    · have hx : wOk x = false := decide_eq_false fun z => h1 z.1
      simp [loopF_cons, x_B1_ask_weights, h1, hx]
def wtsB (n : Nat) (hs ms : List Int) : Bool := decide (hs.length = n) && decide (ms.length = n + 1) && (hs ++ ms).all wOk
theorem wtsB_iff (n : Nat) (hs ms : List Int) : wtsB n hs ms = true ↔ Wts n hs ms := by
  unfold wtsB
  simp only [Bool.and_eq_true, decide_eq_true_eq, List.all_append, List.all_eq_true, wOk]
  exact ⟨fun ⟨⟨a, b⟩, c, d⟩ => ⟨a, b, c, d⟩, fun ⟨a, b, c, d⟩ => ⟨⟨a, b⟩, c, d⟩⟩
theorem r_ask_weights (n : Nat) (ks : List Wd) (hs ms : List Int) (h : ks.length ≤ 1000) (hw : ∀ w ∈ ks, w.length ≤ 100000) (h1 : hs.length ≤ 1000) (h2 : ms.length ≤ 1000) :
    R_ask_weights (n + 4) [dLS ks, dLI hs, dLI ms] = if keysB ks = true then if wtsB ks.length hs ms = true then .ok .none else .exc "NoWeights" else .exc "NoKeys" := by
  have e := r_ask_keys n ks (by omega) hw
  cases c : keysB ks with
  | false =>
    simp only [c, Bool.false_eq_true, if_false] at e
    simp [R_ask_weights, F_ask_weights, e]
  | true =>
    simp only [c, if_true] at e
    by_cases d1 : hs.length = ks.length
    · by_cases d2 : ms.length = ks.length + 1
      · obtain ⟨s', hl⟩ := askw_loop (R_ask_keys (n + 3)) (dLS ks) (dLI hs) (dLI ms) (hs ++ ms) .un
        have l1 : ks.length + (ks.length + 1) ≤ 100000 := by omega
        cases d3 : (hs ++ ms).all wOk with
        | true =>
          simp only [d3, if_true, List.map_append] at hl
          simp [R_ask_weights, F_ask_weights, e, d1, d2, l1, hl]
          simp [wtsB, d1, d2, d3]
        | false =>
          simp only [d3, Bool.false_eq_true, if_false, List.map_append] at hl
          simp [R_ask_weights, F_ask_weights, e, d1, d2, l1, hl]
          simp [wtsB, d1, d2, d3]
      · have d2' : ¬ (ms.length : Int) = ks.length + 1 := by omega
        simp [R_ask_weights, F_ask_weights, e, d1, d2']
        simp [wtsB, d2]
    · have d1' : ¬ (hs.length : Int) = ks.length := by omega
      simp [R_ask_weights, F_ask_weights, e, d1']
      simp [wtsB, d1]
theorem ask_weights_ok (n : Nat) {ks : List Wd} {hs ms : List Int} (hk : Keys ks) (hw : Wts ks.length hs ms) : R_ask_weights (n + 4) [dLS ks, dLI hs, dLI ms] = .ok .none := by
  rw [r_ask_weights n ks hs ms (by have := hk.len; omega) (fun w h => by have := (hk.word w h).2.1; omega) (by rw [hw.hl]; have := hk.len; omega) (by rw [hw.ml]; have := hk.len; omega), if_pos ((keysB_iff ks).mpr hk), if_pos ((wtsB_iff _ _ _).mpr hw)]
/-! the drawn weights -/
theorem flatL_I : ∀ l : List Int, flatL (l.map .int) = true
  | [] => rfl
  | a :: l => by rw [List.map_cons]; simp only [flatL, flat, flatL_I l, Bool.and_self]
@[simp] theorem flatI_I (l : List Int) : flatI (.list (l.map .int)) = true := flatL_I l
theorem r_weights (n : Nat) (ns : List Int) (first many : Int) (h0 : 0 ≤ first) (hm : 0 ≤ many) (hm2 : many ≤ 1000) : ∃ ws, R__law_weights (n + 2) [dLI ns, .int first, .int many] = .ok (dLI ws) ∧ ws.length = many.toNat ∧ ∀ w ∈ ws, 0 ≤ w ∧ w ≤ 1000000 := by
  have q0 : 0 ≤ cellAt ns 1 % 4 := Int.emod_nonneg _ (by decide)
  have q1 : cellAt ns 1 % 4 < 4 := Int.emod_lt_of_pos _ (by decide)
  obtain ⟨mo, e1, m0, m1⟩ : ∃ mo : Int, atI [.int 4, .int 30, .int 1000001, .int 2] (cellAt ns 1 % 4) = some (PyData.int mo) ∧ 0 < mo ∧ mo ≤ 1000001 := by
    rw [atI_nat q0]
    have : (cellAt ns 1 % 4).toNat = 0 ∨ (cellAt ns 1 % 4).toNat = 1 ∨ (cellAt ns 1 % 4).toNat = 2 ∨ (cellAt ns 1 % 4).toNat = 3 := by omega
    rcases this with h | h | h | h <;> rw [h]
    · exact ⟨4, rfl, by decide, by decide⟩
    · exact ⟨30, rfl, by decide, by decide⟩
    · exact ⟨1000001, rfl, by decide, by decide⟩
    · exact ⟨2, rfl, by decide, by decide⟩
  have hmany : many ≤ 100000 := by omega
  have mf : mapF (fun _ => .ok true) (fun d => (((opAdd (.int first) d).bind fun a => R__law_cell_at (n + 1) [dLI ns, a]).bind fun a => R__law_mix (n + 1) [a, d]).bind fun a => (opDiv a (.int 7)).bind fun a => opMod a (.int mo)) ((List.range many.toNat).map fun k : Nat => .int (k : Int)) = .ok (((List.range many.toNat).map fun k : Nat => mixF (cellAt ns (first + k)) k / 7 % mo).map .int) := by
    rw [mapF_all (fun k : Nat => PyData.int (k : Int)) (fun k : Nat => .int (mixF (cellAt ns (first + k)) k / 7 % mo)), List.map_map]
    · rfl
    · intro k hk
      have hk0 : 0 ≤ first + (k : Int) := by omega
      simp [r_cell, hk0, r_mix, m0]
  generalize hws : ((List.range many.toNat).map fun k : Nat => mixF (cellAt ns (first + k)) k / 7 % mo) = ws at mf
  have hlen : ws.length = many.toNat := by rw [← hws]; simp
  have hrng : ∀ w ∈ ws, 0 ≤ w ∧ w ≤ 1000000 := by
    intro w hw
    rw [← hws] at hw
    obtain ⟨k, _, rfl⟩ := List.mem_map.mp hw
    have := Int.emod_nonneg (mixF (cellAt ns (first + k)) k / 7) (b := mo) (by omega)
    have := Int.emod_lt_of_pos (mixF (cellAt ns (first + k)) k / 7) m0
    omega
  by_cases c : 30 < mo
  · refine ⟨ws.map fun w => if w % 9 = 4 then 1000000 else w, ?_, by simp [hlen], ?_⟩
    · have mf2 : mapF (fun _ => .ok true) (fun d => (opMod d (PyData.int 9)).bind fun a => (opEq a (PyData.int 4)).bind fun a => (opInt [a]).bind fun b => opIx (PyData.list [d, PyData.int 1000000]) b) (ws.map .int) = .ok ((ws.map fun w => if w % 9 = 4 then 1000000 else w).map .int) := by
        rw [mapF_all PyData.int (fun w => .int (if w % 9 = 4 then 1000000 else w)), List.map_map]
        · rfl
        · intro w _
          by_cases d : w % 9 = 4 <;> simp [d]
      have ln : ws.length ≤ 100000 := by omega
      simp [R__law_weights, F__law_weights, r_cell, e1, hmany, rng1_eq many (by omega), bind_assoc] at mf mf2 ⊢
      have fl := flatI_I (ws.map fun w => if w % 9 = 4 then 1000000 else w)
      simp at fl
      simp [mf, c, mf2, ln, fl]
      simp [dLI]
    · intro w hw
      obtain ⟨v, hv, rfl⟩ := List.mem_map.mp hw
      split
      · omega
      · exact hrng v hv
  · refine ⟨ws, ?_, hlen, hrng⟩
    simp [R__law_weights, F__law_weights, r_cell, e1, hmany, rng1_eq many (by omega), bind_assoc] at mf ⊢
    simp [mf, c]
    rfl
/-! costs -/
def costG (h m : Nat → Int) : Tr → Nat → Int → Int
  | .nil, i, s => m i * s
  | .node _ l r, i, s => costG h m l i (s + 1) + h (i + sizeT l) * (s + 1) + costG h m r (i + sizeT l + 1) (s + 1)
def gI (l : List Int) (i : Nat) : Int := l.getD i 0
theorem gI_at {l : List Int} {i : Nat} (h : i < l.length) : l[i]? = some (gI l i) := by simp [gI, h]
theorem r_cost_of (hs ms : List Int) : ∀ (t : Tr) (n i : Nat) (s : Int), hgt t < n → i + sizeT t ≤ hs.length → i + sizeT t < ms.length → 0 ≤ s → s + hgt t < 1000000 →
    R_cost_of n [dLI hs, dLI ms, dT t, .int i, .int s] = .ok (.tuple [.int (costG (gI hs) (gI ms) t i s), .int ((i + sizeT t : Nat) : Int)])
  | .nil, n + 1, i, s, _, h1, h2, h3, h4 => by
    simp only [sizeT, Nat.add_zero] at h2
    have c := cmul_r (i := gI ms i) h3 (by simp only [hgt] at h4; omega)
    have e := gI_at h2
    simp [R_cost_of, F_cost_of, costG, sizeT, atI_nat, e, c]
  | .node k l r, n + 1, i, s, h, h1, h2, h3, h4 => by
    have g1 : hgt l < n := by simp [hgt] at h; omega
    have g2 : hgt r < n := by simp [hgt] at h; omega
    simp only [sizeT, hgt] at h1 h2 h4
    have e1 := r_cost_of hs ms l n i (s + 1) g1 (by omega) (by omega) (by omega) (by omega)
    have e2 := r_cost_of hs ms r n (i + sizeT l + 1) (s + 1) g2 (by omega) (by omega) (by omega) (by omega)
    rw [show ((i + sizeT l + 1 : Nat) : Int) = ((i + sizeT l : Nat) : Int) + 1 by omega] at e2
    have e3 : hs[i + sizeT l]? = some (gI hs (i + sizeT l)) := gI_at (by omega)
    have c := cmul_r (i := gI hs (i + sizeT l)) (j := s + 1) (by omega) (by omega)
    have e4 : atI hs ((i + sizeT l : Nat) : Int) = some (gI hs (i + sizeT l)) := by rw [atI_nat (by omega), Int.toNat_natCast, e3]
    have e5 : i + sizeT l + 1 + sizeT r = i + (sizeT l + 1 + sizeT r) := by omega
    rw [e5] at e2
    generalize hj : ((i + sizeT l : Nat) : Int) = j at *
    simp [R_cost_of, F_cost_of, costG, sizeT, e1, e2, e4, c]
theorem r_cost (n : Nat) {ks : List Wd} {t : Tr} {hs ms : List Int} (hk : Keys ks) (hw : Wts ks.length hs ms) (hr : rowT t = ks) (hh : hgt t ≤ 12) (hn : 15 ≤ n) : R_cost n [dLS ks, dLI hs, dLI ms, dT t] = .ok (.int (costG (gI hs) (gI ms) t 0 0)) := by
  obtain ⟨n, rfl⟩ : ∃ k, n = k + 14 := ⟨n - 14, by omega⟩
  have sz : sizeT t = ks.length := by rw [← row_len, hr]
  have e1 := ask_weights_ok (n + 9) hk hw
  have e2 := ask_tree_ok (n + 13) hk hr (by omega)
  have e3 := r_cost_of hs ms t (n + 13) 0 0 (by omega) (by rw [hw.hl]; omega) (by rw [hw.ml]; omega) (by omega) (by omega)
  have e4 : R_cost_of (n + 13) [dLI hs, dLI ms, dT t, .int 0, .int 0] = .ok (.tuple [.int (costG (gI hs) (gI ms) t 0 0), .int ((0 + sizeT t : Nat) : Int)]) := e3
  simp [R_cost, F_cost, e1, e2, e4]
/-- the law's own reckoning, over cut lists -/
theorem r_lcost (h m : Nat → Int) : ∀ (t : Tr) (n i : Nat) (s : Int) (hs ms : List Int), hgt t < n → hs.length = sizeT t → ms.length = sizeT t + 1 → (∀ j, j < sizeT t → hs[j]? = some (h (i + j))) → (∀ j, j ≤ sizeT t → ms[j]? = some (m (i + j))) →
    0 ≤ s → s + hgt t < 1000000 → (rowT t).Nodup → R__law_cost n [dT t, dLS (rowT t), dLI hs, dLI ms, .int s] = .ok (.int (costG h m t i s))
  | .nil, n + 1, i, s, hs, ms, _, l1, l2, a1, a2, s1, s2, _ => by
    have e := a2 0 (Nat.le_refl _)
    have c := cmul_r (i := m i) s1 (by simp only [hgt] at s2; omega)
    simp [R__law_cost, F__law_cost, costG, rowT, atI_nat, e, c]
  | .node k l r, n + 1, i, s, hs, ms, hn, l1, l2, a1, a2, s1, s2, nd => by
    have g1 : hgt l < n := by simp [hgt] at hn; omega
    have g2 : hgt r < n := by simp [hgt] at hn; omega
    simp only [sizeT, hgt] at l1 l2 a1 a2 s2
    obtain ⟨n1, n2, n3⟩ := node_row nd
    have p : (rowT l).length = sizeT l := row_len l
    have e1 := r_lcost h m l n i (s + 1) (hs.take (sizeT l)) (ms.take (sizeT l + 1)) g1 (by rw [List.length_take]; omega) (by rw [List.length_take]; omega)
      (fun j hj => by rw [List.getElem?_take_of_lt hj]; exact a1 j (by omega)) (fun j hj => by rw [List.getElem?_take_of_lt (by omega)]; exact a2 j (by omega)) (by omega) (by omega) n2
    have e2 := r_lcost h m r n (i + sizeT l + 1) (s + 1) (hs.drop (sizeT l + 1)) (ms.drop (sizeT l + 1)) g2 (by rw [List.length_drop]; omega) (by rw [List.length_drop]; omega)
      (fun j hj => by rw [List.getElem?_drop, a1 _ (by omega)]; congr 2; omega) (fun j hj => by rw [List.getElem?_drop, a2 _ (by omega)]; congr 2; omega) (by omega) (by omega) n3
    have e3 : opIndex ((rowT (.node k l r)).map dS) [dS k] = .ok (.int (sizeT l)) := by rw [row_split, ← p]; exact index_dS _ _ _ n1
    have z1 := cut_take (rowT (.node k l r)) (sizeT l : Int) (by omega)
    have z2 := cut_drop (rowT (.node k l r)) (sizeT l + 1 : Int) (by omega)
    rw [Int.toNat_natCast, ← p, row_take, p] at z1
    rw [show ((sizeT l : Int) + 1).toNat = (rowT l).length + 1 by omega, row_drop] at z2
    have z3 := cut_take hs (sizeT l : Int) (by omega)
    have z4 := cut_drop hs (sizeT l + 1 : Int) (by omega)
    have z5 := cut_take ms (sizeT l + 1 : Int) (by omega)
    have z6 := cut_drop ms (sizeT l + 1 : Int) (by omega)
    rw [Int.toNat_natCast] at z3
    rw [show ((sizeT l : Int) + 1).toNat = sizeT l + 1 by omega] at z4 z5 z6
    have e4 : atI hs (sizeT l : Int) = some (h (i + sizeT l)) := by rw [atI_nat (by omega), Int.toNat_natCast, a1 _ (by omega)]
    have c := cmul_r (i := h (i + sizeT l)) (j := s + 1) (by omega) (by omega)
    generalize rowT (.node k l r) = ks at *
    simp [R__law_cost, F__law_cost, costG, e1, e2, e3, z1, z2, z3, z4, z5, z6, e4, c]
theorem lcost_top (n : Nat) {ks : List Wd} {t : Tr} {hs ms : List Int} (hk : Keys ks) (hw : Wts ks.length hs ms) (hr : rowT t = ks) (hn : hgt t < n) : R__law_cost n [dT t, dLS ks, dLI hs, dLI ms, .int 0] = .ok (.int (costG (gI hs) (gI ms) t 0 0)) := by
  have sz : sizeT t = ks.length := by rw [← row_len, hr]
  have hz := hgt_size t
  have := r_lcost (gI hs) (gI ms) t n 0 0 hs ms hn (by rw [sz, hw.hl]) (by rw [sz, hw.ml]) (fun j hj => by rw [Nat.zero_add]; exact gI_at (by rw [hw.hl]; omega)) (fun j hj => by rw [Nat.zero_add]; exact gI_at (by rw [hw.ml]; omega)) (by omega) (by have := hk.len; omega) (by rw [hr]; exact nodup_of_srt hk.srt)
  rw [hr] at this
  exact this
end Sk

namespace Sk
open PySem PySem.Spec PyProof.Rows L2
def sumN : Nat → (Nat → Int) → Int
  | 0, _ => 0
  | n + 1, f => sumN n f + f n
theorem sumN_congr : ∀ (n : Nat) {f g : Nat → Int}, (∀ i < n, f i = g i) → sumN n f = sumN n g
  | 0, _, _, _ => rfl
  | n + 1, f, g, h => by
    simp only [sumN]
    rw [sumN_congr n fun i hi => h i (by omega), h n (by omega)]
theorem sumN_add (a : Nat) (f : Nat → Int) : ∀ b : Nat, sumN (a + b) f = sumN a f + sumN b fun i => f (a + i)
  | 0 => by simp [sumN]
  | b + 1 => by
    show sumN (a + b) f + f (a + b) = _
    rw [sumN_add a f b]
    simp only [sumN]
    omega
theorem sum_take (l : List Int) (i : Nat) : ∀ s : Nat, i + s ≤ l.length → ((l.drop i).take s).sum = sumN s fun j => gI l (i + j)
  | 0, _ => by simp [sumN]
  | s + 1, h => by
    have e : (l.drop i)[s]? = some (gI l (i + s)) := by rw [List.getElem?_drop]; exact gI_at (by omega)
    rw [List.take_add_one, e, List.sum_append, sum_take l i s (by omega)]
    simp [sumN]
/-- the whole weight of the stretch of s keys from i -/
def whole (h m : Nat → Int) (i s : Nat) : Int := sumN s (fun j => h (i + j)) + sumN (s + 1) (fun j => m (i + j))
/-! the worths by their meaning -/
def wG (h m : Nat → Int) : Nat → Nat → Nat → Int
  | 0, _, _ => 0
  | f + 1, s, i => if s = 0 then 0 else whole h m i s + minL ((List.range s).map fun d => wG h m f d i + wG h m f (s - 1 - d) (i + d + 1))
theorem wG_more (h m : Nat → Int) : ∀ (f g s i : Nat), s < f → s < g → wG h m f s i = wG h m g s i
  | f + 1, g + 1, s, i, h1, h2 => by
    unfold wG
    by_cases c : s = 0
    · rw [if_pos c, if_pos c]
    · rw [if_neg c, if_neg c]
      congr 2
      refine List.map_congr_left fun d hd => ?_
      rw [List.mem_range] at hd
      rw [wG_more h m f g d i (by omega) (by omega), wG_more h m f g (s - 1 - d) (i + d + 1) (by omega) (by omega)]
def wF (h m : Nat → Int) (s i : Nat) : Int := wG h m (s + 1) s i
def cand (h m : Nat → Int) (s i : Nat) : List Int := (List.range s).map fun d => wF h m d i + wF h m (s - 1 - d) (i + d + 1)
theorem wF_0 (h m : Nat → Int) (i : Nat) : wF h m 0 i = 0 := rfl
theorem wF_s (h m : Nat → Int) (s i : Nat) (hs : 0 < s) : wF h m s i = whole h m i s + minL (cand h m s i) := by
  unfold wF wG
  rw [if_neg (by omega)]
  congr 2
  refine List.map_congr_left fun d hd => ?_
  rw [List.mem_range] at hd
  rw [wG_more h m s (d + 1) d i (by omega) (by omega), wG_more h m s (s - 1 - d + 1) (s - 1 - d) (i + d + 1) (by omega) (by omega)]
  rfl
theorem findI_mem {l : List Int} {x : Int} (h : x ∈ l) : ∃ j, findI (fun y => decide (y = x)) l = some j := by
  induction l with
  | nil => simp at h
  | cons a l ih =>
    unfold findI
    by_cases c : a = x
    · exact ⟨0, by simp [c]⟩
    · rcases List.mem_cons.mp h with rfl | h
      · exact absurd rfl c
      · obtain ⟨j, hj⟩ := ih h
        exact ⟨j + 1, by simp [c, hj]⟩
def rootI (h m : Nat → Int) (s i : Nat) : Nat := (findI (fun y => decide (y = minL (cand h m s i))) (cand h m s i)).getD 0
theorem cand_len (h m : Nat → Int) (s i : Nat) : (cand h m s i).length = s := by simp [cand]
theorem cand_ne (h m : Nat → Int) {s : Nat} (i : Nat) (hs : 0 < s) : cand h m s i ≠ [] := fun z => by have := cand_len h m s i; rw [z] at this; simp at this; omega
theorem rootI_find (h m : Nat → Int) {s : Nat} (i : Nat) (hs : 0 < s) : findI (fun y => decide (y = minL (cand h m s i))) (cand h m s i) = some (rootI h m s i) := by
  obtain ⟨j, hj⟩ := findI_mem (minL_mem (cand_ne h m i hs))
  unfold rootI
  rw [hj]; rfl
theorem opMin_I {l : List Int} (h : l ≠ []) : opMin [.list (l.map .int)] = .ok (.int (minL l)) := by
  simp only [opMin, intsOf_map, minO]
  cases l with
  | nil => exact absurd rfl h
  | cons a l => rfl
theorem opIndex_I {l : List Int} {x : Int} {j : Nat} (h : findI (fun y => decide (y = x)) l = some j) : opIndex (l.map .int) [.int x] = .ok (.int j) := by
  show rsN ((intsOf (l.map .int)).bind _) = _
  rw [intsOf_map]
  show rsN (findI _ l) = _
  rw [h]; rfl
/-! dicts -/
theorem get_put (ps : IP) (k k' : Int × Int) (z : Int) : getIP (putIP ps k z) k' = if k' = k then some z else getIP ps k' := by
  unfold putIP
  split
  · rename_i h
    induction ps with
    | nil => simp at h
    | cons p ps ih =>
      by_cases c : p.1 = k
      · by_cases d : k' = k
        · subst d
          simp [getIP, c]
        · rw [if_neg d]
          have c2 : ¬ p.1 = k' := fun z => d (z.symm.trans c)
          have c3 : ¬ k = k' := fun z => d z.symm
          simp only [getIP, List.map_cons, c, if_true, List.find?_cons, decide_eq_false c3]
          by_cases e : ps.any (fun p => decide (p.1 = k)) = true
          · have := ih e
            rw [if_neg d] at this
            exact this
          · have : ps.map (fun p => if p.1 = k then (p.1, z) else p) = ps := by
              conv => rhs; rw [← List.map_id ps]
              refine List.map_congr_left fun q hq => ?_
              have : ¬ q.1 = k := fun z => e (List.any_eq_true.mpr ⟨q, hq, decide_eq_true z⟩)
              rw [if_neg this]; rfl
            rw [this]
      · have h' : ps.any (fun p => decide (p.1 = k)) = true := by simpa [c] using h
        have ih' := ih h'
        by_cases d : p.1 = k'
        · have d2 : ¬ k' = k := fun z => c (d.trans z)
          simp [getIP, c, d, d2]
        · simp only [getIP, List.map_cons, if_neg c, List.find?_cons, decide_eq_false d] at ih' ⊢
          exact ih'
  · rename_i h
    have hn : ∀ p ∈ ps, ¬ p.1 = k := fun p hp z => h (List.any_eq_true.mpr ⟨p, hp, decide_eq_true z⟩)
    unfold getIP
    rw [List.find?_append]
    by_cases d : k' = k
    · subst d
      rw [List.find?_eq_none.mpr (fun p hp => by simp [hn p hp])]
      simp
    · rw [if_neg d]
      have : ¬ k = k' := fun z => d z.symm
      cases ps.find? (fun p => decide (p.1 = k')) <;> simp [this]
theorem put_len (ps : IP) (k : Int × Int) (z : Int) : (putIP ps k z).length ≤ ps.length + 1 := by
  unfold putIP
  split <;> simp
end Sk

namespace Sk
open PySem PySem.Spec PyProof.Rows L2
/-- what the tables hold when all stretches of less than S keys, and of S keys those from before F, are done -/
structure Tab (h m : Nat → Int) (n S F : Nat) (w r : IP) : Prop where
  tw : ∀ i s : Nat, i + s ≤ n → (s < S ∨ (s = S ∧ i < F)) → getIP w ((i : Int), (i : Int) + s) = some (wF h m s i)
  tr : ∀ i s : Nat, i + s ≤ n → 0 < s → (s < S ∨ (s = S ∧ i < F)) → getIP r ((i : Int), (i : Int) + s) = some ((i : Int) + rootI h m s i)
  wl : w.length ≤ S * (n + 1) + F
  rl : r.length ≤ S * (n + 1) + F
theorem key_eq (i s F S : Nat) : (((i : Int), (i : Int) + s) = ((F : Int), (F : Int) + S)) ↔ (i = F ∧ s = S) := by
  constructor
  · intro h
    injection h with h1 h2
    omega
  · rintro ⟨rfl, rfl⟩; rfl
theorem Tab.put {h m : Nat → Int} {n S F : Nat} {w r : IP} (T : Tab h m n S F w r) {z y : Int} (hz : z = wF h m S F) (hy : y = (F : Int) + rootI h m S F) : Tab h m n S (F + 1) (putIP w ((F : Int), (F : Int) + S) z) (putIP r ((F : Int), (F : Int) + S) y) where
  tw := fun i s h1 h2 => by
    rw [get_put]
    by_cases c : i = F ∧ s = S
    · rw [if_pos ((key_eq i s F S).mpr c), hz, c.1, c.2]
    · rw [if_neg (fun q => c ((key_eq i s F S).mp q))]
      exact T.tw i s h1 (by omega)
  tr := fun i s h1 h0 h2 => by
    rw [get_put]
    by_cases c : i = F ∧ s = S
    · rw [if_pos ((key_eq i s F S).mpr c), hy, c.1, c.2]
    · rw [if_neg (fun q => c ((key_eq i s F S).mp q))]
      exact T.tr i s h1 h0 (by omega)
  wl := by have := put_len w ((F : Int), (F : Int) + S) z; have := T.wl; omega
  rl := by have := put_len r ((F : Int), (F : Int) + S) y; have := T.rl; omega
theorem Tab.put0 {h m : Nat → Int} {n F : Nat} {w r : IP} (T : Tab h m n 0 F w r) : Tab h m n 0 (F + 1) (putIP w ((F : Int), (F : Int)) 0) r where
  tw := fun i s h1 h2 => by
    rw [get_put]
    have e : ((F : Int), (F : Int)) = ((F : Int), (F : Int) + (0 : Nat)) := by simp
    by_cases c : i = F ∧ s = 0
    · rw [e, if_pos ((key_eq i s F 0).mpr c), c.2]; rfl
    · rw [e, if_neg (fun q => c ((key_eq i s F 0).mp q))]
      exact T.tw i s h1 (by omega)
  tr := fun i s h1 h0 h2 => T.tr i s h1 h0 (by omega)
  wl := by have := put_len w ((F : Int), (F : Int)) 0; have := T.wl; omega
  rl := by have := T.rl; omega
theorem Tab.next {h m : Nat → Int} {n S : Nat} {w r : IP} (T : Tab h m n S (n + 1 - S) w r) (hS : S ≤ n) : Tab h m n (S + 1) 0 w r where
  tw := fun i s h1 h2 => T.tw i s h1 (by omega)
  tr := fun i s h1 h0 h2 => T.tr i s h1 h0 (by omega)
  wl := by have := T.wl; have : (S + 1) * (n + 1) = S * (n + 1) + (n + 1) := Nat.succ_mul _ _; omega
  rl := by have := T.rl; have : (S + 1) * (n + 1) = S * (n + 1) + (n + 1) := Nat.succ_mul _ _; omega
/-- the inner turn -/
theorem tab_inner {hs ms : List Int} {n : Nat} (hl : hs.length = n) (ml : ms.length = n + 1) (hn : n ≤ 12) (S : Nat) (hS : S ≤ n) (w r : IP) (s7 s8 s9 s6 : Sl) (T : Tab (gI hs) (gI ms) n S 0 w r) :
    ∃ w' r' t6 t7 t8 t9, loopF (gS1 6) B1_tables ((List.range (n + 1 - S)).map fun k : Nat => .int (k : Int)) [.sh (dLI hs), .sh (dLI ms), .sh (.int n), .ow (.dict (ddt w)), .ow (.dict (ddt r)), .sh (.int S), s6, s7, s8, s9, .un] =
      .ok (.nx [.sh (dLI hs), .sh (dLI ms), .sh (.int n), .ow (.dict (ddt w')), .ow (.dict (ddt r')), .sh (.int S), t6, t7, t8, t9, .un]) ∧ Tab (gI hs) (gI ms) n S (n + 1 - S) w' r' := by
  obtain ⟨e, h1, w', r', t6, t7, t8, t9, h2, h3⟩ := loop_eq (asg := gS1 6) (body := B1_tables) (fun k : Nat => PyData.int (k : Int))
    (fun F env => ∃ w' r' s6 s7 s8 s9, env = [.sh (dLI hs), .sh (dLI ms), .sh (.int n), .ow (.dict (ddt w')), .ow (.dict (ddt r')), .sh (.int S), s6, s7, s8, s9, .un] ∧ Tab (gI hs) (gI ms) n S F w' r') (List.range (n + 1 - S)) _ ⟨w, r, s6, s7, s8, s9, rfl, T⟩ (by
    rintro i F env hx ⟨w', r', s6, s7, s8, s9, rfl, T'⟩
    obtain ⟨rfl, hi⟩ := range_at hx
    have hb : (n + 1) * (n + 1) ≤ 13 * 13 := Nat.mul_le_mul (by omega) (by omega)
    have hb2 : S * (n + 1) ≤ n * (n + 1) := Nat.mul_le_mul hS (Nat.le_refl _)
    have hb3 : (n + 1) * (n + 1) = n * (n + 1) + (n + 1) := Nat.succ_mul _ _
    have wl := T'.wl
    have rl := T'.rl
    have wl' : w'.length ≤ 100000 := by omega
    have rl' : r'.length ≤ 100000 := by omega
    by_cases c : S = 0
    · subst c
      refine ⟨_, rfl, [.sh (dLI hs), .sh (dLI ms), .sh (.int n), .ow (.dict (ddt (putIP w' ((F : Int), (F : Int)) 0))), .ow (.dict (ddt r')), .sh (.int (0 : Nat)), .sh (.int F), .sh (.int F), s8, s9, .un], ?_, _, _, _, _, _, _, rfl, T'.put0⟩
      simp [x_B1_tables, wl']
    · have c' : ¬ (S : Int) = 0 := by omega
      have S0 : 0 < S := by omega
      have z1 : (cutD hs (some (F : Int)) (some ((F : Int) + S))).sum = sumN S fun j => gI hs (F + j) := by
        rw [cut_mid hs _ _ (by omega) (by omega) (by omega), Int.toNat_natCast, show ((F : Int) + S - F).toNat = S by omega]
        exact sum_take hs F S (by omega)
      have z2 : (cutD ms (some (F : Int)) (some ((F : Int) + S + 1))).sum = sumN (S + 1) fun j => gI ms (F + j) := by
        rw [cut_mid ms _ _ (by omega) (by omega) (by omega), Int.toNat_natCast, show ((F : Int) + S + 1 - F).toNat = S + 1 by omega]
        exact sum_take ms F (S + 1) (by omega)
      have rg := rng2_eq (F : Int) ((F : Int) + S) (by omega)
      rw [show ((F : Int) + S - F).toNat = S by omega] at rg
      have lc : mapF (fun _ => .ok true) (fun d => (intB d fun b => rsI (getIP w' ((F : Int), b))).bind fun a => ((opAdd d (.int 1)).bind fun a => intB a fun a => rsI (getIP w' (a, (F : Int) + S))).bind fun b => opAdd a b) ((List.range S).map fun k : Nat => .int ((F : Int) + k)) = .ok ((cand (gI hs) (gI ms) S F).map .int) := by
        rw [mapF_all (fun k : Nat => PyData.int ((F : Int) + k)) (fun d => .int (wF (gI hs) (gI ms) d F + wF (gI hs) (gI ms) (S - 1 - d) (F + d + 1)))]
        · unfold cand; rw [List.map_map]; rfl
        · intro d hd
          rw [List.mem_range] at hd
          have g1 := T'.tw F d (by omega) (by omega)
          have g2 := T'.tw (F + d + 1) (S - 1 - d) (by omega) (by omega)
          rw [show (((F + d + 1 : Nat) : Int)) = (F : Int) + d + 1 by omega, show (F : Int) + d + 1 + ((S - 1 - d : Nat) : Int) = (F : Int) + S by omega] at g2
          simp [g1, g2]
      have mn := opMin_I (cand_ne (gI hs) (gI ms) F S0)
      have ixx := opIndex_I (rootI_find (gI hs) (gI ms) F S0)
      have wv := wF_s (gI hs) (gI ms) S F S0
      have fl := flatI_I (cand (gI hs) (gI ms) S F)
      have T2 := T'.put (z := wF (gI hs) (gI ms) S F) (y := (F : Int) + rootI (gI hs) (gI ms) S F) rfl rfl
      refine ⟨_, rfl, [.sh (dLI hs), .sh (dLI ms), .sh (.int n), .ow (.dict (ddt (putIP w' ((F : Int), (F : Int) + S) (wF (gI hs) (gI ms) S F)))), .ow (.dict (ddt (putIP r' ((F : Int), (F : Int) + S) ((F : Int) + rootI (gI hs) (gI ms) S F)))), .sh (.int S), .sh (.int F), .sh (.int ((F : Int) + S)), .sh (.int (whole (gI hs) (gI ms) F S)), .ow (.list ((cand (gI hs) (gI ms) S F).map .int)), .un], ?_, _, _, _, _, _, _, rfl, T2⟩
      have sl : S ≤ 100000 := by omega
      have wh : sumN S (fun j => gI hs (F + j)) + sumN (S + 1) (fun j => gI ms (F + j)) = whole (gI hs) (gI ms) F S := rfl
      simp [x_B1_tables, c, c', z1, z2, rg, sl, lc, fl, wl', rl', mn, ixx, wh, wv])
  rw [List.length_range] at h3
  subst h2
  exact ⟨w', r', t6, t7, t8, t9, h1, h3⟩
/-- the outer turn -/
theorem tab_outer {hs ms : List Int} {n : Nat} (hl : hs.length = n) (ml : ms.length = n + 1) (hn : n ≤ 12) :
    ∃ w' r' t5 t6 t7 t8 t9, loopF (gS1 5) B2_tables ((List.range (n + 1)).map fun k : Nat => .int (k : Int)) [.sh (dLI hs), .sh (dLI ms), .sh (.int n), .ow (.dict []), .ow (.dict []), .un, .un, .un, .un, .un, .un] =
      .ok (.nx [.sh (dLI hs), .sh (dLI ms), .sh (.int n), .ow (.dict (ddt w')), .ow (.dict (ddt r')), t5, t6, t7, t8, t9, .un]) ∧ Tab (gI hs) (gI ms) n (n + 1) 0 w' r' := by
  obtain ⟨e, h1, w', r', t5, t6, t7, t8, t9, h2, h3⟩ := loop_eq (asg := gS1 5) (body := B2_tables) (fun k : Nat => PyData.int (k : Int))
    (fun S env => ∃ w' r' s5 s6 s7 s8 s9, env = [.sh (dLI hs), .sh (dLI ms), .sh (.int n), .ow (.dict (ddt w')), .ow (.dict (ddt r')), s5, s6, s7, s8, s9, .un] ∧ Tab (gI hs) (gI ms) n S 0 w' r') (List.range (n + 1)) [.sh (dLI hs), .sh (dLI ms), .sh (.int n), .ow (.dict []), .ow (.dict []), .un, .un, .un, .un, .un, .un]
    ⟨[], [], .un, .un, .un, .un, .un, rfl, ⟨fun i s _ h => by omega, fun i s _ _ h => by omega, by simp, by simp⟩⟩ (by
    rintro i S env hx ⟨w', r', s5, s6, s7, s8, s9, rfl, T⟩
    obtain ⟨rfl, hi⟩ := range_at hx
    obtain ⟨w2, r2, t6, t7, t8, t9, h1, T2⟩ := tab_inner hl ml hn S (by omega) w' r' s7 s8 s9 s6 T
    refine ⟨_, rfl, [.sh (dLI hs), .sh (dLI ms), .sh (.int n), .ow (.dict (ddt w2)), .ow (.dict (ddt r2)), .sh (.int S), t6, t7, t8, t9, .un], ?_, _, _, _, _, _, _, _, rfl, T2.next (by omega)⟩
    have rg := rng1_eq ((n : Int) + 1 - S) (by omega)
    rw [show ((n : Int) + 1 - S).toNat = n + 1 - S by omega] at rg
    simp [x_B2_tables, rg, h1])
  rw [List.length_range] at h3
  subst h2
  exact ⟨w', r', t5, t6, t7, t8, t9, h1, h3⟩
theorem r_tables (k : Nat) {hs ms : List Int} {n : Nat} (hl : hs.length = n) (ml : ms.length = n + 1) (hn : n ≤ 12) : ∃ w r, R_tables (k + 1) [dLI hs, dLI ms] = .ok (.tuple [.dict (ddt w), .dict (ddt r)]) ∧ Tab (gI hs) (gI ms) n (n + 1) 0 w r := by
  obtain ⟨w, r, t5, t6, t7, t8, t9, h1, T⟩ := tab_outer hl ml hn
  refine ⟨w, r, ?_, T⟩
  have rg := rng1_eq ((n : Int) + 1) (by omega)
  rw [show ((n : Int) + 1).toNat = n + 1 by omega] at rg
  simp [R_tables, F_tables, hl, rg, h1]
/-! what is told of them -/
theorem r_least (k : Nat) {ks : List Wd} {hs ms : List Int} (hk : Keys ks) (hw : Wts ks.length hs ms) : R_least (k + 5) [dLS ks, dLI hs, dLI ms] = .ok (.int (wF (gI hs) (gI ms) ks.length 0)) := by
  obtain ⟨w, r, e, T⟩ := r_tables (k + 3) hw.hl hw.ml hk.len
  have e1 := ask_weights_ok k hk hw
  have g := T.tw 0 ks.length (by omega) (by omega)
  have g' : getIP w ((0 : Int), (ks.length : Int)) = some (wF (gI hs) (gI ms) ks.length 0) := by simpa using g
  simp [R_least, F_least, e1, e, g']
def rowW (h m : Nat → Int) (n i : Nat) : List Int := (List.range (n + 1 - i)).map fun s => wF h m s i
theorem r_worths (k : Nat) {ks : List Wd} {hs ms : List Int} (hk : Keys ks) (hw : Wts ks.length hs ms) : R_worths (k + 5) [dLS ks, dLI hs, dLI ms] = .ok (.list ((List.range (ks.length + 1)).map fun i => dLI (rowW (gI hs) (gI ms) ks.length i))) := by
  obtain ⟨w, r, e, T⟩ := r_tables (k + 3) hw.hl hw.ml hk.len
  have e1 := ask_weights_ok k hk hw
  have hn := hk.len
  have rg := rng1_eq ((ks.length : Int) + 1) (by omega)
  rw [show ((ks.length : Int) + 1).toNat = ks.length + 1 by omega] at rg
  have l1 : ks.length ≤ 99999 := by omega
  simp [R_worths, F_worths, e1, e, rg, l1]
  rw [mapF_all (fun i : Nat => PyData.int (i : Int)) (fun i => dLI (rowW (gI hs) (gI ms) ks.length i))]
  · simp
  · intro i hi
    rw [List.mem_range] at hi
    have rg2 := rng2_eq (i : Int) ((ks.length : Int) + 1) (by omega)
    rw [show ((ks.length : Int) + 1 - i).toNat = ks.length + 1 - i by omega] at rg2
    have l2 : ks.length + 1 - i ≤ 100000 := by omega
    simp [rg2, l2]
    rw [mapF_all (fun j : Nat => PyData.int ((i : Int) + j)) (fun s => .int (wF (gI hs) (gI ms) s i))]
    · simp [rowW, dLI]
    · intro s hs'
      rw [List.mem_range] at hs'
      have g := T.tw i s (by omega) (by omega)
      simp [g]
def rowR (h m : Nat → Int) (n i : Nat) : List Int := (List.range (n - i)).map fun s => (i : Int) + rootI h m (s + 1) i
theorem r_roots (k : Nat) {ks : List Wd} {hs ms : List Int} (hk : Keys ks) (hw : Wts ks.length hs ms) : R_roots (k + 5) [dLS ks, dLI hs, dLI ms] = .ok (.list ((List.range ks.length).map fun i => dLI (rowR (gI hs) (gI ms) ks.length i))) := by
  obtain ⟨w, r, e, T⟩ := r_tables (k + 3) hw.hl hw.ml hk.len
  have e1 := ask_weights_ok k hk hw
  have hn := hk.len
  have rg := rng1_eq (ks.length : Int) (by omega)
  rw [Int.toNat_natCast] at rg
  have l1 : ks.length ≤ 100000 := by omega
  simp [R_roots, F_roots, e1, e, rg, l1]
  rw [mapF_all (fun i : Nat => PyData.int (i : Int)) (fun i => dLI (rowR (gI hs) (gI ms) ks.length i))]
  · simp
  · intro i hi
    rw [List.mem_range] at hi
    have rg2 := rng2_eq ((i : Int) + 1) ((ks.length : Int) + 1) (by omega)
    rw [show ((ks.length : Int) + 1 - (i + 1)).toNat = ks.length - i by omega] at rg2
    have l2 : ks.length - i ≤ 100000 := by omega
    simp [rg2, l2]
    rw [mapF_all (fun j : Nat => PyData.int ((i : Int) + 1 + j)) (fun s => .int ((i : Int) + rootI (gI hs) (gI ms) (s + 1) i))]
    · simp [rowR, dLI]
    · intro s hs'
      rw [List.mem_range] at hs'
      have g := T.tr i (s + 1) (by omega) (by omega) (by omega)
      rw [show (i : Int) + ((s + 1 : Nat) : Int) = (i : Int) + 1 + s by omega] at g
      simp [g]
/-! the built tree -/
theorem rootI_lt (h m : Nat → Int) {s : Nat} (i : Nat) (hs : 0 < s) : rootI h m s i < s := by
  obtain ⟨⟨z, h1, _⟩, _⟩ := findI_some (rootI_find h m i hs)
  have := (List.getElem?_eq_some_iff.mp h1).1
  rw [cand_len] at this
  exact this
def bT (ks : List Wd) (h m : Nat → Int) : Nat → Nat → Nat → Tr
  | 0, _, _ => .nil
  | f + 1, s, i => if s = 0 then .nil else .node (ks.getD (i + rootI h m s i) []) (bT ks h m f (rootI h m s i) i) (bT ks h m f (s - 1 - rootI h m s i) (i + rootI h m s i + 1))
theorem bT_more (ks : List Wd) (h m : Nat → Int) : ∀ (f g s i : Nat), s < f → s < g → bT ks h m f s i = bT ks h m g s i
  | f + 1, g + 1, s, i, h1, h2 => by
    unfold bT
    by_cases c : s = 0
    · rw [if_pos c, if_pos c]
    · rw [if_neg c, if_neg c]
      have := rootI_lt h m (s := s) i (by omega)
      rw [bT_more ks h m f g _ i (by omega) (by omega), bT_more ks h m f g (s - 1 - rootI h m s i) (i + rootI h m s i + 1) (by omega) (by omega)]
def bestT (ks : List Wd) (h m : Nat → Int) (s i : Nat) : Tr := bT ks h m (s + 1) s i
theorem bestT_0 (ks : List Wd) (h m : Nat → Int) (i : Nat) : bestT ks h m 0 i = .nil := rfl
theorem bestT_s (ks : List Wd) (h m : Nat → Int) {s : Nat} (i : Nat) (hs : 0 < s) : bestT ks h m s i = .node (ks.getD (i + rootI h m s i) []) (bestT ks h m (rootI h m s i) i) (bestT ks h m (s - 1 - rootI h m s i) (i + rootI h m s i + 1)) := by
  have := rootI_lt h m i hs
  unfold bestT
  conv => lhs; unfold bT
  rw [if_neg (by omega), bT_more ks h m s (rootI h m s i + 1) _ i (by omega) (by omega), bT_more ks h m s (s - 1 - rootI h m s i + 1) _ _ (by omega) (by omega)]
theorem bestT_size (ks : List Wd) (h m : Nat → Int) : ∀ (s i : Nat), sizeT (bestT ks h m s i) = s := by
  intro s
  induction s using Nat.strongRecOn with
  | ind s ih =>
    intro i
    by_cases c : s = 0
    · subst c; rfl
    · have := rootI_lt h m (s := s) i (by omega)
      rw [bestT_s ks h m i (by omega)]
      simp only [sizeT]
      rw [ih _ (by omega), ih _ (by omega)]
      omega
theorem bestT_row (ks : List Wd) (h m : Nat → Int) : ∀ (s i : Nat), i + s ≤ ks.length → rowT (bestT ks h m s i) = (ks.drop i).take s := by
  intro s
  induction s using Nat.strongRecOn with
  | ind s ih =>
    intro i hl
    by_cases c : s = 0
    · subst c; simp [bestT_0, rowT]
    · have hr := rootI_lt h m (s := s) i (by omega)
      rw [bestT_s ks h m i (by omega), row_split, ih _ (by omega) _ (by omega), ih _ (by omega) _ (by omega)]
      generalize rootI h m s i = p at *
      have hp : i + p < ks.length := by omega
      have e4 : s = p + (1 + (s - 1 - p)) := by omega
      conv => rhs; rw [e4]
      rw [List.take_add, List.drop_drop, List.take_add, List.drop_drop]
      congr 1
      rw [List.take_one, List.head?_drop, List.getElem?_eq_getElem hp]
      simp [hp]
theorem r_built (ks : List Wd) (h m : Nat → Int) {n : Nat} (hn : ks.length = n) {w r : IP} (T : Tab h m n (n + 1) 0 w r) : ∀ (s k i : Nat), s < k → i + s ≤ n → R_built k [dLS ks, .dict (ddt r), .int i, .int ((i : Int) + s)] = .ok (dT (bestT ks h m s i)) := by
  intro s
  induction s using Nat.strongRecOn with
  | ind s ih =>
    intro k i hk hl
    obtain ⟨k, rfl⟩ : ∃ j, k = j + 1 := ⟨k - 1, by omega⟩
    by_cases c : s = 0
    · subst c; simp [R_built, F_built, bestT_0]
    · have hr := rootI_lt h m (s := s) i (by omega)
      have g := T.tr i s hl (by omega) (by omega)
      rw [bestT_s ks h m i (by omega)]
      have i1 := ih _ hr k i (by omega) (by omega)
      have i2 := ih (s - 1 - rootI h m s i) (by omega) k (i + rootI h m s i + 1) (by omega) (by omega)
      generalize rootI h m s i = p at *
      rw [show ((i + p + 1 : Nat) : Int) = (i : Int) + p + 1 by omega, show (i : Int) + p + 1 + ((s - 1 - p : Nat) : Int) = (i : Int) + s by omega] at i2
      have hp : i + p < ks.length := by omega
      have ek : atI ks ((i : Int) + p) = some (ks.getD (i + p) []) := by rw [atI_nat (by omega), show ((i : Int) + p).toNat = i + p by omega, List.getElem?_eq_getElem hp]; simp [hp]
      have c2 : ¬ (i : Int) = (i : Int) + s := by omega
      generalize ks.getD (i + p) [] = kk at *
      simp [R_built, F_built, c, c2, g, i1, i2, ek]
theorem r_best (k : Nat) {ks : List Wd} {hs ms : List Int} (hk : Keys ks) (hw : Wts ks.length hs ms) : R_best (k + 20) [dLS ks, dLI hs, dLI ms] = .ok (dT (bestT ks (gI hs) (gI ms) ks.length 0)) := by
  obtain ⟨w, r, e, T⟩ := r_tables (k + 18) hw.hl hw.ml hk.len
  have e1 := ask_weights_ok (k + 15) hk hw
  have e2 := r_built ks (gI hs) (gI ms) rfl T ks.length (k + 19) 0 (by have := hk.len; omega) (by omega)
  have e3 : R_built (k + 19) [dLS ks, .dict (ddt r), .int 0, .int ks.length] = .ok (dT (bestT ks (gI hs) (gI ms) ks.length 0)) := by simpa using e2
  simp [R_best, F_best, e1, e, e3]
end Sk

namespace Sk
open PySem PySem.Spec PyProof.Rows L2
def kst : Tr → Nat → Nat
  | .nil, _ => 0
  | .node _ l r, i => if i < sizeT l then kst l i + 1 else if i = sizeT l then 1 else kst r (i - sizeT l - 1) + 1
def gst : Tr → Nat → Nat
  | .nil, _ => 0
  | .node _ l r, g => if g ≤ sizeT l then gst l g + 1 else gst r (g - sizeT l - 1) + 1
theorem kst_le : ∀ (t : Tr) (i : Nat), kst t i ≤ hgt t
  | .nil, _ => Nat.le_refl _
  | .node k l r, i => by
    have h1 := kst_le l i
    have h2 := kst_le r (i - sizeT l - 1)
    simp only [kst, hgt]
    split
    · omega
    · split <;> omega
theorem gst_le : ∀ (t : Tr) (i : Nat), gst t i ≤ hgt t
  | .nil, _ => Nat.le_refl _
  | .node k l r, i => by
    have h1 := gst_le l i
    have h2 := gst_le r (i - sizeT l - 1)
    simp only [gst, hgt]
    split <;> omega
theorem cost_sum (h m : Nat → Int) : ∀ (t : Tr) (i : Nat) (s : Int), costG h m t i s = sumN (sizeT t) (fun j => h (i + j) * (s + kst t j)) + sumN (sizeT t + 1) (fun g => m (i + g) * (s + gst t g))
  | .nil, i, s => by simp [costG, sizeT, sumN, gst]
  | .node k l r, i, s => by
    have e1 := cost_sum h m l i (s + 1)
    have e2 := cost_sum h m r (i + sizeT l + 1) (s + 1)
    simp only [costG, sizeT]
    rw [e1, e2]
    have a1 : sumN (sizeT l + 1 + sizeT r) (fun j => h (i + j) * (s + kst (.node k l r) j)) = sumN (sizeT l) (fun j => h (i + j) * (s + 1 + kst l j)) + h (i + sizeT l) * (s + 1) + sumN (sizeT r) (fun j => h (i + sizeT l + 1 + j) * (s + 1 + kst r j)) := by
      rw [sumN_add]
      show sumN (sizeT l) _ + _ + _ = _
      congr 1
      · congr 1
        · refine sumN_congr _ fun j hj => ?_
          simp only [kst, if_pos hj]
          rw [show s + ((kst l j + 1 : Nat) : Int) = s + 1 + kst l j by omega]
        · simp only [kst, Nat.lt_irrefl, if_false, if_true]; rfl
      · refine sumN_congr _ fun j hj => ?_
        have q1 : ¬ sizeT l + 1 + j < sizeT l := by omega
        have q2 : ¬ sizeT l + 1 + j = sizeT l := by omega
        simp only [kst, if_neg q1, if_neg q2]
        rw [show sizeT l + 1 + j - sizeT l - 1 = j by omega, show s + ((kst r j + 1 : Nat) : Int) = s + 1 + kst r j by omega, show i + (sizeT l + 1 + j) = i + sizeT l + 1 + j by omega]
    have a2 : sumN (sizeT l + 1 + sizeT r + 1) (fun g => m (i + g) * (s + gst (.node k l r) g)) = sumN (sizeT l + 1) (fun g => m (i + g) * (s + 1 + gst l g)) + sumN (sizeT r + 1) (fun g => m (i + sizeT l + 1 + g) * (s + 1 + gst r g)) := by
      rw [show sizeT l + 1 + sizeT r + 1 = (sizeT l + 1) + (sizeT r + 1) by omega, sumN_add]
      congr 1
      · refine sumN_congr _ fun j hj => ?_
        simp only [gst, if_pos (show j ≤ sizeT l by omega)]
        rw [show s + ((gst l j + 1 : Nat) : Int) = s + 1 + gst l j by omega]
      · refine sumN_congr _ fun j hj => ?_
        have q1 : ¬ sizeT l + 1 + j ≤ sizeT l := by omega
        simp only [gst, if_neg q1]
        rw [show sizeT l + 1 + j - sizeT l - 1 = j by omega, show s + ((gst r j + 1 : Nat) : Int) = s + 1 + gst r j by omega, show i + (sizeT l + 1 + j) = i + sizeT l + 1 + j by omega]
    rw [a1, a2]
    omega
theorem less_app (a b : List Wd) (w : Wd) : lessN (a ++ b) w = lessN a w + lessN b w := by simp [lessN]
theorem less_all {a : List Wd} {w : Wd} (h : ∀ x ∈ a, x < w) : lessN a w = a.length := by
  unfold lessN
  rw [List.filter_eq_self.mpr fun x hx => decide_eq_true (h x hx)]
theorem less_none {a : List Wd} {w : Wd} (h : ∀ x ∈ a, ¬ x < w) : lessN a w = 0 := by
  unfold lessN
  rw [List.filter_eq_nil_iff.mpr fun x hx => by simp [h x hx]]; rfl
theorem srt_node {k : Wd} {l r : Tr} (h : (rowT (.node k l r)).Pairwise (· < ·)) : (rowT l).Pairwise (· < ·) ∧ (rowT r).Pairwise (· < ·) ∧ (∀ x ∈ rowT l, x < k) ∧ ∀ x ∈ rowT r, k < x := by
  rw [row_split, List.pairwise_append, List.pairwise_cons] at h
  exact ⟨h.1, h.2.1.2, fun x hx => h.2.2 x hx k List.mem_cons_self, h.2.1.1⟩
theorem lt_asymm' {a b : Wd} (h : a < b) : ¬ b < a := fun z => List.lt_irrefl _ (lt_trans' h z)
theorem lt_tri : ∀ a b : Wd, a < b ∨ a = b ∨ b < a
  | [], [] => .inr (.inl rfl)
  | [], y :: b => .inl (List.nil_lt_cons y b)
  | x :: a, [] => .inr (.inr (List.nil_lt_cons x a))
  | x :: a, y :: b => by
    rw [List.cons_lt_cons_iff, List.cons_lt_cons_iff]
    rcases Nat.lt_trichotomy x y with h | h | h
    · exact .inl (.inl h)
    · subst h
      rcases lt_tri a b with h | h | h
      · exact .inl (.inr ⟨rfl, h⟩)
      · exact .inr (.inl (by rw [h]))
      · exact .inr (.inr (.inr ⟨rfl, h⟩))
    · exact .inr (.inr (.inl h))
theorem sought_key : ∀ (t : Tr) (i : Nat) (w : Wd), (rowT t).Pairwise (· < ·) → (rowT t)[i]? = some w → soughtF t w = (kst t i, true)
  | .nil, i, w, _, h => by simp [rowT] at h
  | .node k l r, i, w, hs, h => by
    obtain ⟨s1, s2, s3, s4⟩ := srt_node hs
    rw [row_split] at h
    have p := row_len l
    by_cases c : i < sizeT l
    · rw [List.getElem?_append_left (by omega)] at h
      have hw := s3 w (List.mem_of_getElem? h)
      have ih := sought_key l i w s1 h
      have q : ¬ k = w := fun z => by subst z; exact List.lt_irrefl _ hw
      simp [soughtF, q, hw, ih, kst, c]
    · rw [List.getElem?_append_right (by omega), p] at h
      by_cases c2 : i = sizeT l
      · subst c2
        simp at h
        simp [soughtF, h, kst]
      · obtain ⟨j, hj⟩ : ∃ j, i - sizeT l = j + 1 := ⟨i - sizeT l - 1, by omega⟩
        rw [hj, List.getElem?_cons_succ] at h
        have hw := s4 w (List.mem_of_getElem? h)
        have ih := sought_key r j w s2 h
        have q : ¬ k = w := fun z => by subst z; exact List.lt_irrefl _ hw
        have q2 := lt_asymm' hw
        have q3 : i - sizeT l - 1 = j := by omega
        simp [soughtF, q, q2, ih, kst, c, c2, q3]
theorem sought_gap : ∀ (t : Tr) (w : Wd), (rowT t).Pairwise (· < ·) → w ∉ rowT t → soughtF t w = (gst t (lessN (rowT t) w), false) ∧ lessN (rowT t) w ≤ sizeT t
  | .nil, w, _, _ => by simp [soughtF, gst, rowT, lessN, sizeT]
  | .node k l r, w, hs, h => by
    obtain ⟨s1, s2, s3, s4⟩ := srt_node hs
    rw [row_split] at h ⊢
    simp only [List.mem_append, List.mem_cons, not_or] at h
    obtain ⟨h1, h2, h3⟩ := h
    have q : ¬ k = w := fun z => h2 z.symm
    have p := row_len l
    rw [less_app, show k :: rowT r = [k] ++ rowT r from rfl, less_app]
    rcases lt_tri w k with c | c | c
    · obtain ⟨e1, e2⟩ := sought_gap l w s1 h1
      have z1 : lessN [k] w = 0 := less_none (by intro x hx; rw [List.mem_singleton] at hx; subst hx; exact lt_asymm' c)
      have z2 : lessN (rowT r) w = 0 := less_none fun x hx => lt_asymm' (lt_trans' c (s4 x hx))
      rw [z1, z2]
      simp only [Nat.add_zero]
      refine ⟨by simp [soughtF, q, c, e1, gst, e2], by simp only [sizeT]; omega⟩
    · exact absurd c h2
    · obtain ⟨e1, e2⟩ := sought_gap r w s2 h3
      have z1 : lessN [k] w = 1 := less_all (a := [k]) (by simp [c])
      have z2 : lessN (rowT l) w = sizeT l := by rw [less_all fun x hx => lt_trans' (s3 x hx) c, p]
      rw [z1, z2]
      have q2 := lt_asymm' c
      have q3 : ¬ sizeT l + (1 + lessN (rowT r) w) ≤ sizeT l := by omega
      have q4 : sizeT l + (1 + lessN (rowT r) w) - sizeT l - 1 = lessN (rowT r) w := by omega
      refine ⟨by simp [soughtF, q, q2, e1, gst, q3, q4], by simp only [sizeT]; omega⟩
/-! costs and worths -/
theorem whole_0 (h m : Nat → Int) (i : Nat) : whole h m i 0 = m i := by simp [whole, sumN]
theorem whole_split (h m : Nat → Int) (i a b : Nat) : whole h m i (a + 1 + b) = whole h m i a + h (i + a) + whole h m (i + a + 1) b := by
  unfold whole
  rw [show a + 1 + b + 1 = (a + 1) + (b + 1) by omega, sumN_add (a + 1) _ b, sumN_add (a + 1) _ (b + 1)]
  have e1 : sumN b (fun j => h (i + (a + 1 + j))) = sumN b fun j => h (i + a + 1 + j) := sumN_congr _ fun j _ => by rw [show i + (a + 1 + j) = i + a + 1 + j by omega]
  have e2 : sumN (b + 1) (fun j => m (i + (a + 1 + j))) = sumN (b + 1) fun j => m (i + a + 1 + j) := sumN_congr _ fun j _ => by rw [show i + (a + 1 + j) = i + a + 1 + j by omega]
  rw [e1, e2]
  show sumN a _ + h (i + a) + _ + _ = _
  omega
theorem cost_step (h m : Nat → Int) : ∀ (t : Tr) (i : Nat) (c : Int), costG h m t i (c + 1) = costG h m t i c + whole h m i (sizeT t)
  | .nil, i, c => by simp only [costG, sizeT, whole_0, Int.mul_add, Int.mul_one]
  | .node k l r, i, c => by
    simp only [costG, sizeT]
    rw [cost_step h m l i (c + 1), cost_step h m r (i + sizeT l + 1) (c + 1), whole_split, Int.mul_add (h (i + sizeT l)) (c + 1) 1, Int.mul_one]
    omega
theorem cost_node (h m : Nat → Int) (k : Wd) (l r : Tr) (i : Nat) : costG h m (.node k l r) i 0 = whole h m i (sizeT (.node k l r)) + costG h m l i 0 + costG h m r (i + sizeT l + 1) 0 := by
  simp only [costG, sizeT]
  rw [cost_step, cost_step, whole_split]
  omega
theorem cand_at (h m : Nat → Int) {s d : Nat} (i : Nat) (hd : d < s) : (cand h m s i)[d]? = some (wF h m d i + wF h m (s - 1 - d) (i + d + 1)) := by
  unfold cand
  rw [List.getElem?_map, List.getElem?_range hd]; rfl
theorem wF_le (h m : Nat → Int) {s d : Nat} (i : Nat) (hd : d < s) : wF h m s i ≤ whole h m i s + wF h m d i + wF h m (s - 1 - d) (i + d + 1) := by
  rw [wF_s h m s i (by omega)]
  have := minL_le (List.mem_of_getElem? (cand_at h m i hd))
  omega
theorem root_eq (h m : Nat → Int) {s : Nat} (i : Nat) (hs : 0 < s) : wF h m s i = whole h m i s + wF h m (rootI h m s i) i + wF h m (s - 1 - rootI h m s i) (i + rootI h m s i + 1) := by
  obtain ⟨⟨z, h1, h2⟩, _⟩ := findI_some (rootI_find h m i hs)
  have hz := of_decide_eq_true h2
  have := cand_at h m i (rootI_lt h m i hs)
  rw [h1] at this
  injection this with this
  rw [wF_s h m s i hs, ← hz, this]
  omega
/-- the best tree costs the worth -/
theorem best_cost (ks : List Wd) (h m : Nat → Int) : ∀ (s i : Nat), costG h m (bestT ks h m s i) i 0 = wF h m s i := by
  intro s
  induction s using Nat.strongRecOn with
  | ind s ih =>
    intro i
    by_cases c : s = 0
    · subst c; simp [bestT_0, costG, wF_0]
    · have hr := rootI_lt h m (s := s) i (by omega)
      have e := root_eq h m (s := s) i (by omega)
      have sz := bestT_size ks h m s i
      rw [bestT_s ks h m i (by omega)] at sz ⊢
      rw [cost_node, sz, bestT_size, ih _ hr, ih _ (by omega), e]
/-- and no tree costs less -/
theorem worth_least (h m : Nat → Int) : ∀ (t : Tr) (i : Nat), wF h m (sizeT t) i ≤ costG h m t i 0
  | .nil, i => by simp [sizeT, costG, wF_0]
  | .node k l r, i => by
    rw [cost_node]
    have h1 := worth_least h m l i
    have h2 := worth_least h m r (i + sizeT l + 1)
    have h3 := wF_le h m (s := sizeT (.node k l r)) (d := sizeT l) i (by simp only [sizeT]; omega)
    rw [show sizeT (.node k l r) - 1 - sizeT l = sizeT r by simp only [sizeT]; omega] at h3
    omega
theorem wts0 (k : Nat) (ns : List Int) (m : Nat) (hm : m ≤ 12) : ∃ hs ms, R__law_weights (k + 2) [dLI ns, .int 2, .int m] = .ok (dLI hs) ∧ R__law_weights (k + 2) [dLI ns, .int 15, .int (m + 1)] = .ok (dLI ms) ∧ Wts m hs ms := by
  obtain ⟨hs, e1, l1, r1⟩ := r_weights k ns 2 m (by omega) (by omega) (by omega)
  obtain ⟨ms, e2, l2, r2⟩ := r_weights k ns 15 (m + 1) (by omega) (by omega) (by omega)
  exact ⟨hs, ms, e1, e2, by omega, by omega, r1, r2⟩
end Sk

namespace Sk
open PySem PySem.Spec PyProof.Rows L2
/-! lists of lists that a law holds alone -/
section
variable {env : SEnv} {fe fi fj : Ev → Rs D}
theorem x_Nn (i : Nat) : sNn i fe env = (fe (hidV env)).bind fun d => onB d fun dss => .ok (.nx (env.set i (.on dss))) := (rfl)
theorem x_Nit (k : Nat) : sNit k fi fj fe env = owN env[k]? fun dss => (fe (allV env)).bind fun d => if flat d = true then (fi (hidV env)).bind fun ix => intB ix fun a => match ixN dss.length a with
  | some n => (fj (hidV env)).bind fun jx => intB jx fun b => (match ixN (dss.getD n []).length b with
    | some l => .ok (.nx (env.set k (.on (dss.set n ((dss.getD n []).set l d)))))
    | none => .bad)
  | none => .bad else .bad := (rfl)
theorem x_Nap (k : Nat) : sNap k fi fe env = owN env[k]? fun dss => (fi (hidV env)).bind fun ix => intB ix fun j => match ixN dss.length j with
  | some n => (fe (hidV env)).bind fun d => if (dss.getD n []).length ≤ 100000 then .ok (.nx (env.set k (.on (dss.set n (dss.getD n [] ++ [d]))))) else .bad
  | none => .bad := (rfl)
theorem x_Np (k : Nat) : sNp k fe env = owN env[k]? fun dss => (fe (hidV env)).bind fun d => lstB d fun ds => if dss.length ≤ 100000 then .ok (.nx (env.set k (.on (dss ++ [ds])))) else .bad := (rfl)
theorem x_Npop (k : Nat) : sNpop k fi env = owN env[k]? fun dss => (fi (hidV env)).bind fun ix => intB ix fun j => match ixN dss.length j with
  | some n => if dss.getD n [] = [] then .bad else .ok (.nx (env.set k (.on (dss.set n (dss.getD n []).dropLast))))
  | none => .bad := (rfl)
@[simp] theorem x_owN {α : Type} (dss : List (List D)) (k : List (List D) → Rs α) : owN (some (.on dss)) k = k dss := (rfl)
@[simp] theorem x_h4 (d : List (List D)) : (Sl.on d).hid = none := (rfl)
@[simp] theorem x_a4 (d : List (List D)) : (Sl.on d).all = some (onD d) := (rfl)
@[simp] theorem x_eN {ev : Ev} : eN fe ev = (fe ev).bind fun d => onB d fun _ => .ok d := (rfl)
end
theorem can_LI (l : List Int) : (dLI l).canLay0 = true := (sh_LI l).can
theorem sh_three {ks : List Wd} (hk : Keys ks) (hs ms : List Int) : Sh (.list [dLS ks, dLI hs, dLI ms]) := (sh_iff _).mpr ⟨by simp [PyData.canLay0, PyData.canLayAll0, hk.shL.can, can_LI], by
  have a := ((sh_iff _).mp hk.shL).2
  have h1 : (dLS ks).depth ≤ 1 := by
    simp only [dLS, PyData.depth]
    have := depAll (f := dS) (n := 0) (l := ks) fun x _ => by simp [dS, PyData.depth]
    omega
  have h2 : ∀ l : List Int, (dLI l).depth ≤ 1 := fun l => by
    simp only [dLI, PyData.depth]
    have := depAll (f := PyData.int) (n := 0) (l := l) fun x _ => by simp [PyData.depth]
    omega
  have h3 := h2 hs
  have h4 := h2 ms
  simp only [PyData.depth, PyData.depthAll]
  omega⟩
/-! lists of rows of whole numbers -/
def rowsD (l : List (List Int)) : List (List D) := l.map fun r => r.map .int
theorem onRows (l : List (List Int)) : onD (rowsD l) = .list (l.map dLI) := by unfold onD rowsD; rw [List.map_map]; rfl
theorem onB_rows {α : Type} (l : List (List Int)) (k : List (List D) → Rs α) : onB (.list (l.map dLI)) k = k (rowsD l) := by rw [← onRows, onB_on]
theorem rows_len (l : List (List Int)) : (rowsD l).length = l.length := by simp [rowsD]
def wRows (h m : Nat → Int) (n : Nat) : List (List Int) := (List.range (n + 1)).map (rowW h m n)
def rRows (h m : Nat → Int) (n : Nat) : List (List Int) := (List.range n).map (rowR h m n)
theorem wRows_len (h m : Nat → Int) (n : Nat) : (wRows h m n).length = n + 1 := by simp [wRows]
theorem rRows_len (h m : Nat → Int) (n : Nat) : (rRows h m n).length = n := by simp [rRows]
theorem rowW_len (h m : Nat → Int) (n i : Nat) : (rowW h m n i).length = n + 1 - i := by simp [rowW]
theorem rowR_len (h m : Nat → Int) (n i : Nat) : (rowR h m n i).length = n - i := by simp [rowR]
theorem wRows_at (h m : Nat → Int) {n i : Nat} (hi : i ≤ n) : (wRows h m n)[i]? = some (rowW h m n i) := by
  unfold wRows
  rw [List.getElem?_map, List.getElem?_range (by omega)]; rfl
theorem rRows_at (h m : Nat → Int) {n i : Nat} (hi : i < n) : (rRows h m n)[i]? = some (rowR h m n i) := by
  unfold rRows
  rw [List.getElem?_map, List.getElem?_range (by omega)]; rfl
theorem ix_rows {l : List (List Int)} {i : Nat} {r : List Int} (h : l[i]? = some r) : atI (l.map dLI) (i : Int) = some (dLI r) := by
  rw [atI_nat (by omega), Int.toNat_natCast, List.getElem?_map, h]; rfl
theorem rowW_at (h m : Nat → Int) {n i s : Nat} (hs : i + s ≤ n) : atI (rowW h m n i) (s : Int) = some (wF h m s i) := by
  rw [atI_nat (by omega), Int.toNat_natCast]
  unfold rowW
  rw [List.getElem?_map, List.getElem?_range (by omega)]; rfl
theorem r_worths' (k : Nat) {ks : List Wd} {hs ms : List Int} (hk : Keys ks) (hw : Wts ks.length hs ms) : R_worths (k + 5) [dLS ks, dLI hs, dLI ms] = .ok (.list ((wRows (gI hs) (gI ms) ks.length).map dLI)) := by
  rw [r_worths k hk hw]; unfold wRows; rw [List.map_map]; rfl
theorem r_roots' (k : Nat) {ks : List Wd} {hs ms : List Int} (hk : Keys ks) (hw : Wts ks.length hs ms) : R_roots (k + 5) [dLS ks, dLI hs, dLI ms] = .ok (.list ((rRows (gI hs) (gI ms) ks.length).map dLI)) := by
  rw [r_roots k hk hw]; unfold rRows; rw [List.map_map]; rfl
/-- the weight of a stretch, by slices -/
theorem whole_cut {hs ms : List Int} {n : Nat} (hl : hs.length = n) (ml : ms.length = n + 1) {i s : Nat} (h : i + s ≤ n) :
    (cutD hs (some (i : Int)) (some ((i : Int) + s))).sum + (cutD ms (some (i : Int)) (some ((i : Int) + s + 1))).sum = whole (gI hs) (gI ms) i s := by
  rw [cut_mid hs _ _ (by omega) (by omega) (by omega), Int.toNat_natCast, show ((i : Int) + s - i).toNat = s by omega, sum_take hs i s (by omega)]
  rw [cut_mid ms _ _ (by omega) (by omega) (by omega), Int.toNat_natCast, show ((i : Int) + s + 1 - i).toNat = s + 1 by omega, sum_take ms i (s + 1) (by omega)]
  rfl
end Sk

namespace Sk
open PySem PySem.Spec PyProof.Rows L2
/-! texts of trees -/
def textT : Tr → Wd
  | .nil => [45]
  | .node k l r => [40] ++ textT l ++ [32] ++ k ++ [32] ++ textT r ++ [41]
theorem lit_dash : (PyData.str "-") = dS [45] := by unfold dS; congr 1
theorem lit_open : (PyData.str "(") = dS [40] := by unfold dS; congr 1
theorem lit_blank : (PyData.str " ") = dS [32] := by unfold dS; congr 1
theorem lit_close : (PyData.str ")") = dS [41] := by unfold dS; congr 1
theorem add_ok {a b : Wd} (h : a.length + b.length ≤ 100000) : opAdd (dS a) (dS b) = .ok (dS (a ++ b)) := by rw [o_addS, if_pos h]
theorem text_len (k : Wd) (l r : Tr) : (textT (.node k l r)).length = 4 + (textT l).length + k.length + (textT r).length := by simp [textT]; omega
theorem text7 {a b c : Wd} (h : 4 + a.length + b.length + c.length ≤ 100000) {α : Type} (f : D → Rs α) :
    ((opAdd (dS [40]) (dS a)).bind fun x => (opAdd x (dS [32])).bind fun x => (opAdd x (dS b)).bind fun x => (opAdd x (dS [32])).bind fun x => (opAdd x (dS c)).bind fun x => (opAdd x (dS [41])).bind f) = f (dS ([40] ++ a ++ [32] ++ b ++ [32] ++ c ++ [41])) := by
  rw [add_ok (by simp; omega), ok_bind', add_ok (by simp; omega), ok_bind', add_ok (by simp; omega), ok_bind', add_ok (by simp; omega), ok_bind', add_ok (by simp; omega), ok_bind', add_ok (by simp; omega), ok_bind']
theorem r_written : ∀ (t : Tr) (n : Nat), hgt t < n → (textT t).length ≤ 100000 → R_written n [dT t] = .ok (dS (textT t))
  | .nil, n + 1, _, _ => by simp [R_written, F_written, textT, lit_dash]
  | .node k l r, n + 1, h, hs => by
    have h1 : hgt l < n := by simp [hgt] at h; omega
    have h2 : hgt r < n := by simp [hgt] at h; omega
    rw [text_len] at hs
    have e1 := r_written l n h1 (by omega)
    have e2 := r_written r n h2 (by omega)
    simp [R_written, F_written, lit_dash, lit_open, lit_blank, lit_close, e1, e2, -o_addS, bind_assoc]
    rw [text7 hs]
    simp [textT]
theorem r_text : ∀ (t : Tr) (n : Nat), hgt t < n → (textT t).length ≤ 100000 → R__law_text n [dT t] = .ok (dS (textT t))
  | .nil, n + 1, _, _ => by simp [R__law_text, F__law_text, textT, lit_dash]
  | .node k l r, n + 1, h, hs => by
    have h1 : hgt l < n := by simp [hgt] at h; omega
    have h2 : hgt r < n := by simp [hgt] at h; omega
    rw [text_len] at hs
    have e1 := r_text l n h1 (by omega)
    have e2 := r_text r n h2 (by omega)
    simp [R__law_text, F__law_text, lit_dash, lit_open, lit_blank, lit_close, e1, e2, -o_addS, bind_assoc]
    rw [text7 hs]
    simp [textT]
/-! reading -/
theorem cut_one (x : Wd) (a : Nat) : cutD x (some (a : Int)) (some ((a : Int) + 1)) = x[a]?.toList := by
  unfold cutD
  rw [sIx_nn _ _ _ (by omega), sIx_nn _ _ _ (by omega), Int.toNat_natCast, show ((a : Int) + 1).toNat = a + 1 by omega]
  by_cases c : a < x.length
  · rw [Nat.min_eq_left (by omega), Nat.min_eq_left (by omega), show a + 1 - a = 1 by omega, List.take_one, List.head?_drop]
  · rw [Nat.min_eq_right (by omega), Nat.min_eq_right (by omega), Nat.sub_self, List.take_zero, List.getElem?_eq_none (by omega)]; rfl
theorem toList_one (o : Option Nat) (c : Nat) : (o.toList = [c]) ↔ o = some c := by cases o <;> simp
def wend (x : Wd) (s : Nat) : Nat := s + ((x.drop s).takeWhile isL).length
def parse : Nat → Wd → Nat → Option (Tr × Nat)
  | 0, _, _ => none
  | f + 1, x, a => if x[a]? = some 45 then some (.nil, a + 1) else if x[a]? = some 40 then
      (parse f x (a + 1)).bind fun l => if x[l.2]? = some 32 then if x[wend x (l.2 + 1)]? = some 32 then
        (parse f x (wend x (l.2 + 1) + 1)).bind fun r => if x[r.2]? = some 41 then some (.node ((x.drop (l.2 + 1)).takeWhile isL) l.1 r.1, r.2 + 1) else none
      else none else none else none
def cnt (x : Wd) (a : Nat) : Nat := ((x.drop a).filter fun c => decide (c = 40)).length
theorem cnt_le (x : Wd) {a b : Nat} (h : a ≤ b) : cnt x b ≤ cnt x a := by
  unfold cnt
  obtain ⟨d, rfl⟩ : ∃ d, b = a + d := ⟨b - a, by omega⟩
  rw [← List.drop_drop]
  exact (((List.drop_sublist d (x.drop a))).filter _).length_le
theorem cnt_open (x : Wd) (a : Nat) (h : x[a]? = some 40) : cnt x (a + 1) + 1 = cnt x a := by
  obtain ⟨h1, h2⟩ := List.getElem?_eq_some_iff.mp h
  unfold cnt
  rw [List.drop_eq_getElem_cons h1, h2, List.filter_cons]
  simp
theorem parse_at : ∀ (f : Nat) (x : Wd) (a : Nat) (r : Tr × Nat), parse f x a = some r → a < r.2 ∧ r.2 ≤ x.length
  | 0, _, _, _, h => by simp [parse] at h
  | f + 1, x, a, r, h => by
    unfold parse at h
    split at h
    · rename_i h1
      have := (List.getElem?_eq_some_iff.mp h1).1
      cases h
      exact ⟨Nat.lt_succ_self a, this⟩
    · split at h
      · obtain ⟨l, hl, h⟩ := Option.bind_eq_some_iff.mp h
        split at h
        · split at h
          · obtain ⟨q, hq, h⟩ := Option.bind_eq_some_iff.mp h
            split at h
            · rename_i h5
              have := (List.getElem?_eq_some_iff.mp h5).1
              have i1 := parse_at f x _ _ hl
              have i2 := parse_at f x _ _ hq
              cases h
              have h9 : l.2 + 1 ≤ wend x (l.2 + 1) := Nat.le_add_right _ _
              exact ⟨by show a < q.2 + 1; omega, this⟩
            · cases h
          · cases h
        · cases h
      · cases h
theorem wend_loop (x : Wd) (hx : x.length ≤ 900) : ∀ (f a : Nat), ((x.drop a).takeWhile isL).length < f → a ≤ x.length → whileN (bAnd (bE (e2 opLt (eV 1) (eA opLen (aC (eV 0) aN)))) (bE (e2 opIn (e2 opIx (eV 0) (eV 1)) (eC (.str "abcdefghijklmnopqrstuvwxyz"))))) B1_word_end f
    [.sh (dS x), .sh (.int a)] = .ok (.nx [.sh (dS x), .sh (.int (wend x a))])
  | 0, a, h, _ => by omega
  | f + 1, a, h, ha => by
    have l1 : x.length ≤ 100000 := by omega
    by_cases c : a < x.length
    · have e1 : x[a]? = some x[a] := List.getElem?_eq_getElem c
      have e2 : x.drop a = x[a] :: x.drop (a + 1) := List.drop_eq_getElem_cons c
      have c' : (a : Int) < x.length := by omega
      by_cases d : isL x[a] = true
      · have d' : x[a] ∈ lettersW := (mem_letters _).mpr (of_decide_eq_true d)
        rw [e2, List.takeWhile_cons, if_pos d] at h
        have ih := wend_loop x hx f (a + 1) (by simpa using h) (by omega)
        have w : wend x a = wend x (a + 1) := by
          unfold wend
          rw [e2, List.takeWhile_cons, if_pos d, List.length_cons]; omega
        have e3 : ((a : Int) + 1) = ((a + 1 : Nat) : Int) := by omega
        simp [whileN, x_B1_word_end, l1, c, atI_nat, e1, lit_letters, d']
        rw [e3, ← lit_letters, ih, w]
      · have d' : ¬ x[a] ∈ lettersW := fun z => d (decide_eq_true ((mem_letters _).mp z))
        have w : wend x a = a := by
          unfold wend
          rw [e2, List.takeWhile_cons, if_neg d]; rfl
        simp [whileN, x_B1_word_end, l1, c, atI_nat, e1, lit_letters, d', w]
    · have w : wend x a = a := by
        unfold wend
        rw [List.drop_of_length_le (by omega)]; rfl
      simp [whileN, x_B1_word_end, l1, c, w]
theorem r_wend (n : Nat) (x : Wd) (a : Nat) (hx : x.length ≤ 900) (ha : a ≤ x.length) : R_word_end (n + 1) [dS x, .int a] = .ok (.int (wend x a)) := by
  have h1 : ((x.drop a).takeWhile isL).length ≤ x.length := Nat.le_trans (List.takeWhile_sublist _).length_le (by rw [List.length_drop]; omega)
  have e := wend_loop x hx 1000 a (by omega) ha
  simp [R_word_end, F_word_end, e]
theorem r_behind (n : Nat) (x : Wd) (a c : Nat) (hx : x.length ≤ 900) : R_behind (n + 1) [dS x, .int a, dS [c]] = if x[a]? = some c then .ok (.int (a + 1)) else .exc "BadText" := by
  have l1 : x.length ≤ 100000 := by omega
  by_cases d : x[a]? = some c
  · simp [R_behind, F_behind, l1, cut_one, toList_one, d]
  · have d' : ¬ x[a]?.toList = [c] := fun z => d ((toList_one _ _).mp z)
    simp [R_behind, F_behind, l1, cut_one, d, d']
theorem wend_le (x : Wd) {s : Nat} (h : s ≤ x.length) : wend x s ≤ x.length := by
  unfold wend
  have := (List.takeWhile_sublist isL (l := x.drop s)).length_le
  rw [List.length_drop] at this
  omega
theorem take_tw {α : Type} (p : α → Bool) : ∀ l : List α, l.take (l.takeWhile p).length = l.takeWhile p
  | [] => rfl
  | x :: l => by
    rw [List.takeWhile_cons]
    split
    · rw [List.length_cons, List.take_succ_cons, take_tw p l]
    · rfl
theorem cut_word (x : Wd) (s : Nat) (h : s ≤ x.length) : cutD x (some (s : Int)) (some (wend x s : Int)) = (x.drop s).takeWhile isL := by
  have h2 := wend_le x h
  have h3 : s ≤ wend x s := Nat.le_add_right _ _
  rw [cut_mid x _ _ (by omega) (by omega) (by omega), Int.toNat_natCast, show ((wend x s : Int) - (s : Int)).toNat = ((x.drop s).takeWhile isL).length by unfold wend; omega]
  exact take_tw _ _
def outP : Option (Tr × Nat) → Rs D
  | some r => .ok (.tuple [dT r.1, .int r.2])
  | none => .exc "BadText"
theorem r_tree_at (x : Wd) (hx : x.length ≤ 900) : ∀ (f a : Nat), cnt x a < f → a ≤ x.length → R_tree_at (f + 1) [dS x, .int a] = outP (parse f x a)
  | 0, a, h, _ => by omega
  | f + 1, a, h, ha => by
    have st : ∀ ds, R_tree_at (f + 1 + 1) ds = fnOf 6 2 .e (F_tree_at (R_tree_at (f + 1)) (R_behind (f + 1)) (R_word_end (f + 1))) ds := fun _ => rfl
    rw [st]
    have l1 : x.length ≤ 100000 := by omega
    have bh := fun a c => r_behind f x a c hx
    have we := fun a h => r_wend f x a hx h
    have ca : ((a : Int) + 1) = ((a + 1 : Nat) : Int) := by omega
    by_cases c1 : x[a]? = some 45
    · have p : parse (f + 1) x a = some (.nil, a + 1) := by simp [parse, c1]
      rw [p]
      simp [F_tree_at, l1, cut_one, toList_one, c1, lit_dash, outP]
    · have c1' : ¬ x[a]?.toList = [45] := fun z => c1 ((toList_one _ _).mp z)
      by_cases c2 : x[a]? = some 40
      · have hlt := (List.getElem?_eq_some_iff.mp c2).1
        have ih := r_tree_at x hx f (a + 1) (by have := cnt_open x a c2; omega) hlt
        rw [← ca] at ih
        have b1 := bh a 40
        rw [if_pos c2] at b1
        cases hp : parse f x (a + 1) with
        | none =>
          have p : parse (f + 1) x a = none := by simp [parse, c1, c2, hp]
          rw [p]
          rw [hp] at ih
          simp [F_tree_at, l1, cut_one, c1', lit_dash, lit_open, outP, b1] at ih ⊢
          simp [ih]
        | some l =>
          obtain ⟨l, a1⟩ := l
          obtain ⟨g1, g2⟩ := parse_at f x _ _ hp
          simp only at g1 g2
          rw [hp] at ih
          have b2 := bh a1 32
          by_cases c3 : x[a1]? = some 32
          · have h3 := (List.getElem?_eq_some_iff.mp c3).1
            rw [if_pos c3] at b2
            have w1 := we (a1 + 1) h3
            rw [show ((a1 + 1 : Nat) : Int) = (a1 : Int) + 1 by omega] at w1
            have h4 := wend_le x h3
            have b3 := bh (wend x (a1 + 1)) 32
            by_cases c4 : x[wend x (a1 + 1)]? = some 32
            · rw [if_pos c4] at b3
              have h5 := (List.getElem?_eq_some_iff.mp c4).1
              have g3 : a1 + 1 ≤ wend x (a1 + 1) := Nat.le_add_right _ _
              have ih2 := r_tree_at x hx f (wend x (a1 + 1) + 1) (by have := cnt_open x a c2; have := cnt_le x (show a + 1 ≤ wend x (a1 + 1) + 1 by omega); omega) h5
              rw [show ((wend x (a1 + 1) + 1 : Nat) : Int) = (wend x (a1 + 1) : Int) + 1 by omega] at ih2
              cases hq : parse f x (wend x (a1 + 1) + 1) with
              | none =>
                have p : parse (f + 1) x a = none := by simp [parse, c1, c2, hp, c3, c4, hq]
                rw [p]
                rw [hq] at ih2
                simp [F_tree_at, l1, cut_one, c1', lit_dash, lit_open, lit_blank, outP, b1, b2, b3, w1] at ih ih2 ⊢
                simp [ih, ih2, b2, b3, w1]
              | some r =>
                obtain ⟨r, a2⟩ := r
                rw [hq] at ih2
                have b4 := bh a2 41
                have cw := cut_word x (a1 + 1) h3
                rw [show ((a1 + 1 : Nat) : Int) = (a1 : Int) + 1 by omega] at cw
                by_cases c5 : x[a2]? = some 41
                · have p : parse (f + 1) x a = some (.node ((x.drop (a1 + 1)).takeWhile isL) l r, a2 + 1) := by simp [parse, c1, c2, hp, c3, c4, hq, c5]
                  rw [p]
                  rw [if_pos c5] at b4
                  simp [F_tree_at, l1, cut_one, c1', lit_dash, lit_open, lit_blank, lit_close, outP, b1] at ih ih2 ⊢
                  simp [ih, ih2, b2, b3, b4, w1, cw, l1]
                · have p : parse (f + 1) x a = none := by simp [parse, c1, c2, hp, c3, c4, hq, c5]
                  rw [p]
                  rw [if_neg c5] at b4
                  simp [F_tree_at, l1, cut_one, c1', lit_dash, lit_open, lit_blank, lit_close, outP, b1] at ih ih2 ⊢
                  simp [ih, ih2, b2, b3, b4, w1, cw, l1]
            · rw [if_neg c4] at b3
              have p : parse (f + 1) x a = none := by simp [parse, c1, c2, hp, c3, c4]
              rw [p]
              simp [F_tree_at, l1, cut_one, c1', lit_dash, lit_open, lit_blank, outP, b1] at ih ⊢
              simp [ih, b2, b3, w1]
          · rw [if_neg c3] at b2
            have p : parse (f + 1) x a = none := by simp [parse, c1, c2, hp, c3]
            rw [p]
            simp [F_tree_at, l1, cut_one, c1', lit_dash, lit_open, lit_blank, outP, b1] at ih ⊢
            simp [ih, b2]
      · have p : parse (f + 1) x a = none := by simp [parse, c1, c2]
        rw [p]
        have b1 := bh a 40
        rw [if_neg c2] at b1
        simp [F_tree_at, l1, cut_one, c1', lit_dash, lit_open, outP, b1]
theorem parse_sz : ∀ (f : Nat) (x : Wd) (a : Nat) (r : Tr × Nat), parse f x a = some r → hgt r.1 < f ∧ sizeT r.1 + a ≤ r.2 ∧ ∀ w ∈ rowT r.1, w.length ≤ x.length
  | 0, _, _, _, h => by simp [parse] at h
  | f + 1, x, a, r, h => by
    unfold parse at h
    split at h
    · cases h
      exact ⟨Nat.succ_pos _, by simp [sizeT], by simp [rowT]⟩
    · split at h
      · obtain ⟨l, hl, h⟩ := Option.bind_eq_some_iff.mp h
        split at h
        · split at h
          · obtain ⟨q, hq, h⟩ := Option.bind_eq_some_iff.mp h
            split at h
            · obtain ⟨i1, i2, i3⟩ := parse_sz f x _ _ hl
              obtain ⟨j1, j2, j3⟩ := parse_sz f x _ _ hq
              cases h
              have h9 : l.2 + 1 ≤ wend x (l.2 + 1) := Nat.le_add_right _ _
              refine ⟨by simp only [hgt]; omega, by simp only [sizeT]; omega, fun w hw => ?_⟩
              rw [row_split] at hw
              simp only [List.mem_append, List.mem_cons] at hw
              rcases hw with hw | rfl | hw
              · exact i3 w hw
              · exact Nat.le_trans (List.takeWhile_sublist _).length_le (by rw [List.length_drop]; omega)
              · exact j3 w hw
            · cases h
          · cases h
        · cases h
      · cases h
def outR (x : Wd) : Option (Tr × Nat) → Rs D
  | some r => if r.2 = x.length ∧ keysB (rowT r.1) = true then .ok (dT r.1) else .exc "BadText"
  | none => .exc "BadText"
theorem r_read (x : Wd) (hx : x.length ≤ 900) (f : Nat) (h : cnt x 0 < f) : R_read (f + 2) [dS x] = outR x (parse f x 0) := by
  have e := r_tree_at x hx f 0 h (Nat.zero_le _)
  have l1 : x.length ≤ 100000 := by omega
  have st : ∀ ds, R_read (f + 2) ds = fnOf 2 1 .e (F_read (R_tree_at (f + 1)) (R_are_keys (f + 1)) (R_row_of (f + 1))) ds := fun _ => rfl
  rw [st]
  cases hp : parse f x 0 with
  | none =>
    rw [hp] at e
    simp [outP] at e
    simp [F_read, e, outR]
  | some r =>
    obtain ⟨t, b⟩ := r
    rw [hp] at e
    obtain ⟨s1, s2, s3⟩ := parse_sz f x 0 _ hp
    have s4 := (parse_at f x 0 _ hp).2
    simp only at s1 s2 s3 s4
    have e2 := r_row t (f + 1) (by omega) (by omega)
    obtain ⟨g, rfl⟩ : ∃ g, f = g + 1 := ⟨f - 1, by omega⟩
    have e3 := r_are_keys g (rowT t) (by rw [row_len]; omega) (fun w hw => Nat.le_trans (s3 w hw) l1)
    simp [outP] at e
    by_cases c : b = x.length
    · cases d : keysB (rowT t) <;> simp [F_read, e, outR, l1, c, e2, e3, d]
    · have c' : ¬ (b : Int) = x.length := by omega
      simp [F_read, e, outR, l1, c]
      rw [if_neg c']
      rfl
/-- what is written is read -/
theorem tw_app (k q : Wd) (hk : ∀ c ∈ k, isL c = true) (hq : ∀ c, q.head? = some c → isL c = false) : (k ++ q).takeWhile isL = k := by
  induction k with
  | nil =>
    cases q with
    | nil => rfl
    | cons c q =>
      have := hq c rfl
      simp [List.takeWhile_cons, this]
  | cons a k ih =>
    rw [List.cons_append, List.takeWhile_cons, if_pos (hk a List.mem_cons_self), ih fun c hc => hk c (List.mem_cons_of_mem _ hc)]
theorem at_app {X A B : Wd} {c i : Nat} (h : X = A ++ c :: B) (hi : i = A.length) : X[i]? = some c := by subst h hi; simp
theorem parse_text : ∀ (t : Tr) (f : Nat) (p q : Wd), hgt t < f → (∀ w ∈ rowT t, ∀ c ∈ w, isL c = true) → parse f (p ++ textT t ++ q) p.length = some (t, p.length + (textT t).length)
  | .nil, f + 1, p, q, _, _ => by simp [parse, textT]
  | .node k l r, f + 1, p, q, h, hw => by
    have h1 : hgt l < f := by simp [hgt] at h; omega
    have h2 : hgt r < f := by simp [hgt] at h; omega
    have w1 : ∀ w ∈ rowT l, ∀ c ∈ w, isL c = true := fun w hm => hw w (by rw [row_split]; simp [hm])
    have w2 : ∀ w ∈ rowT r, ∀ c ∈ w, isL c = true := fun w hm => hw w (by rw [row_split]; simp [hm])
    have wk : ∀ c ∈ k, isL c = true := hw k (by rw [row_split]; simp)
    generalize hX : p ++ textT (.node k l r) ++ q = X
    have x1 : X = (p ++ [40]) ++ textT l ++ (32 :: (k ++ 32 :: (textT r ++ 41 :: q))) := by rw [← hX]; simp [textT]
    have x2 : X = (p ++ [40] ++ textT l ++ [32] ++ k ++ [32]) ++ textT r ++ (41 :: q) := by rw [← hX]; simp [textT]
    have i1 := parse_text l f (p ++ [40]) (32 :: (k ++ 32 :: (textT r ++ 41 :: q))) h1 w1
    have i2 := parse_text r f (p ++ [40] ++ textT l ++ [32] ++ k ++ [32]) (41 :: q) h2 w2
    rw [← x1] at i1
    rw [← x2] at i2
    have a0 : X[p.length]? = some 40 := by rw [x1]; simp
    have a1 : X[p.length + 1 + (textT l).length]? = some 32 := at_app x1 (by simp; omega)
    have e2 : X.drop (p.length + 1 + (textT l).length + 1) = k ++ 32 :: (textT r ++ 41 :: q) := by
      have : X = (p ++ [40] ++ textT l ++ [32]) ++ (k ++ 32 :: (textT r ++ 41 :: q)) := by rw [x1]; simp
      rw [this, List.drop_left' (by simp; omega)]
    have tw : (X.drop (p.length + 1 + (textT l).length + 1)).takeWhile isL = k := by
      rw [e2]
      exact tw_app _ _ wk (by intro c hc; simp at hc; subst hc; decide)
    have we : wend X (p.length + 1 + (textT l).length + 1) = p.length + 1 + (textT l).length + 1 + k.length := by unfold wend; rw [tw]
    have a2 : X[p.length + 1 + (textT l).length + 1 + k.length]? = some 32 := by
      rw [← List.getElem?_drop, e2]; simp
    have a3 : X[p.length + 1 + (textT l).length + 1 + k.length + 1 + (textT r).length]? = some 41 := by
      exact at_app x2 (by simp; omega)
    simp only [List.length_append, List.length_singleton] at i1 i2
    have a0' : ¬ X[p.length]? = some 45 := by rw [a0]; simp
    unfold parse
    rw [if_neg a0', if_pos a0, i1]
    simp only [Option.bind_some]
    rw [if_pos a1, we, if_pos a2, i2]
    simp only [Option.bind_some]
    rw [if_pos a3, tw, text_len]
    congr 2
    omega
end Sk

namespace Sk
open PySem PySem.Spec PyProof.Rows L2
/-! exceptions, evaluated -/
section
variable {ev : Ev} {env : SEnv} {fe fo : Ev → Rs D} {fr : Ev → Rs (List D)} {fa fb : Ev → Rs Unit}
@[simp] theorem x_uC : uC fe ev = (fe ev).bind fun _ => .ok () := (rfl)
@[simp] theorem x_uS : uS fa fb ev = (fa ev).bind fun _ => fb ev := (rfl)
@[simp] theorem x_Try (i : Nat) (hs : List Hd) : sTry fb i hs env = match fb (allV env) with
  | .ok _ => .ok (.nx env)
  | .exc x => hndl i x env hs
  | .bad => .bad := (rfl)
@[simp] theorem x_hn (i : Nat) (x : String) : hndl i x env [] = .bad := (rfl)
@[simp] theorem x_hc (i : Nat) (x : String) (yes no : List String) (f : SEnv → Rs Fl) (r : List Hd) : hndl i x env ((yes, no, f) :: r) =
  if yes.contains x = true then (match f (env.set i (.sh (dE (Str.ofString x)))) with | .ok fl => .ok (clrE i fl) | _ => .bad) else if no.contains x = true then hndl i x env r else .bad := (rfl)
@[simp] theorem x_clr (i : Nat) (e : SEnv) : clrE i (.nx e) = .nx (e.set i .un) := (rfl)
@[simp] theorem x_Cnt : eCount fo fr ev = (fo ev).bind fun a => lstB a fun ds => (fr ev).bind fun r => opCount ds r := (rfl)
@[simp] theorem x_isX (tab : List (Str × Bool)) (z : Str) : opIsX tab (dE z) = rsB (lkp tab z) := (rfl)
@[simp] theorem x_lk0 (z : Str) : lkp [] z = none := (rfl)
@[simp] theorem x_lk1 (y z : Str) (b : Bool) (r : List (Str × Bool)) : lkp ((y, b) :: r) z = if z = y then some b else lkp r z := (rfl)
@[simp] theorem x_cntB (l : List Bool) (b : Bool) : opCount (l.map .bool) [.bool b] = .ok (.int (l.count b : Nat)) := by simp [opCount, boolsOf_map]
end
end Sk

namespace Sk
open PySem PySem.Spec PyProof.Rows L2
theorem r_lrow : ∀ (t : Tr) (n : Nat), hgt t < n → sizeT t ≤ 100000 → R__law_row n [dT t] = .ok (dLS (rowT t))
  | .nil, n + 1, _, _ => by simp [R__law_row, F__law_row, rowT, dLS]
  | .node k l r, n + 1, h, hs => by
    have h1 : hgt l < n := by simp [hgt] at h; omega
    have h2 : hgt r < n := by simp [hgt] at h; omega
    simp only [sizeT] at hs
    have e1 : sizeT l ≤ 99999 := by omega
    have e2 : sizeT l + 1 + sizeT r ≤ 100000 := hs
    simp [R__law_row, F__law_row, r_lrow l n h1 (by omega), r_lrow r n h2 (by omega), rowT, dLS_one, row_len, e1, e2]
/-! ### a key turned up -/
def upT : Tr → Wd → Tr
  | .nil, _ => .nil
  | .node k l r, w => if w < k then (match l with
      | .nil => .nil
      | .node a b c => if a = w then .node a b (.node k c r) else .node k (upT l w) r)
    else (match r with
      | .nil => .nil
      | .node a b c => if a = w then .node a (.node k l b) c else .node k l (upT r w))
theorem srt_parts {k : Wd} {l r : Tr} (h : (rowT (.node k l r)).Pairwise (· < ·)) : (rowT l).Pairwise (· < ·) ∧ (rowT r).Pairwise (· < ·) ∧ (∀ x ∈ rowT l, x < k) ∧ ∀ x ∈ rowT r, k < x := by
  simp only [rowT, List.append_assoc, List.singleton_append, List.pairwise_append, List.pairwise_cons, List.mem_cons] at h
  obtain ⟨h1, ⟨h2, h3⟩, h4⟩ := h
  exact ⟨h1, h3, fun x hx => h4 x hx k (.inl rfl), h2⟩
theorem lt_irr {a : Wd} : ¬ a < a := List.lt_irrefl _
theorem lt_asy {a b : Wd} (h : a < b) : ¬ b < a := fun z => lt_irr (lt_trans' h z)
@[simp] theorem isnN_T (k : Wd) (l r : Tr) : isNone (dT (.node k l r)) = false := (rfl)
theorem up_ok : ∀ (t : Tr) (w : Wd) (n : Nat), (rowT t).Pairwise (· < ·) → w ∈ rowT t → (∀ k l r, t = .node k l r → w ≠ k) → hgt t < n →
    R_up n [dT t, dS w] = .ok (dT (upT t w)) ∧ R__law_up n [dT t, dS w] = .ok (dT (upT t w)) ∧ rowT (upT t w) = rowT t
  | .nil, w, n, _, hm, _, _ => by simp [rowT] at hm
  | .node k l r, w, n, hs, hm, hr, hn => by
    obtain ⟨n, rfl⟩ : ∃ m, n = m + 1 := ⟨n - 1, by omega⟩
    obtain ⟨s1, s2, s3, s4⟩ := srt_parts hs
    have wk : w ≠ k := hr k l r rfl
    have h1 : hgt l < n := by simp [hgt] at hn; omega
    have h2 : hgt r < n := by simp [hgt] at hn; omega
    rw [row_split] at hm
    simp only [List.mem_append, List.mem_cons] at hm
    have lift : ∀ a b c d e : D, R_lifted_left (n - 1 + 1) [.tuple [a, .tuple [b, c, d], e]] = .ok (.tuple [b, c, .tuple [a, d, e]]) := fun a b c d e => by simp [R_lifted_left, F_lifted_left]
    have lift2 : ∀ a b c d e : D, R_lifted_right (n - 1 + 1) [.tuple [a, e, .tuple [b, c, d]]] = .ok (.tuple [b, .tuple [a, e, c], d]) := fun a b c d e => by simp [R_lifted_right, F_lifted_right]
    by_cases c : w < k
    · have hl : w ∈ rowT l := by
        rcases hm with h | h | h
        · exact h
        · exact absurd h wk
        · exact absurd c (lt_asy (s4 w h))
      cases l with
      | nil => simp [rowT] at hl
      | node a b d =>
        rw [show n - 1 + 1 = n by simp [hgt] at h1; omega] at lift
        by_cases e : a = w
        · subst e
          have nr : ∀ a2 b2 d2, r = .node a2 b2 d2 → ¬ a2 = a := fun a2 b2 d2 hr2 z => by
            subst hr2 z
            exact lt_asy c (s4 _ (by rw [row_split]; simp))
          refine ⟨?_, ?_, ?_⟩
          · simp [R_up, F_up, upT, c, lift]
          · simp [R__law_up, F__law_up, upT, c, loopF_cons, x_B1__law_up]
          · simp [upT, c, rowT]
        · have ih := up_ok (.node a b d) w n s1 hl (fun k' l' r' z => by cases z; exact fun y => e y.symm) h1
          obtain ⟨i1, i2, i3⟩ := ih
          simp only [dT_node] at i1 i2
          refine ⟨?_, ?_, ?_⟩
          · simp [R_up, F_up, upT, c, e, i1]
          · cases r with
            | nil => simp [R__law_up, F__law_up, upT, c, e, loopF_cons, x_B1__law_up, i2]
            | node a2 b2 d2 =>
              have nr : ¬ a2 = w := fun z => by
                subst z
                exact lt_asy c (s4 _ (by rw [row_split]; simp))
              simp [R__law_up, F__law_up, upT, c, e, nr, loopF_cons, x_B1__law_up, i2]
          · rw [show upT (.node k (.node a b d) r) w = .node k (upT (.node a b d) w) r by simp [upT, c, e]]
            simp only [rowT] at i3 ⊢
            rw [i3]
    · have hl : w ∈ rowT r := by
        rcases hm with h | h | h
        · exact absurd (s3 w h) c
        · exact absurd h wk
        · exact h
      cases r with
      | nil => simp [rowT] at hl
      | node a b d =>
        rw [show n - 1 + 1 = n by simp [hgt] at h2; omega] at lift2
        have nl : ∀ a2 b2 d2, l = .node a2 b2 d2 → ¬ a2 = w := fun a2 b2 d2 hl2 z => by
          subst hl2 z
          exact c (s3 _ (by rw [row_split]; simp))
        by_cases e : a = w
        · subst e
          refine ⟨?_, ?_, ?_⟩
          · simp [R_up, F_up, upT, c, lift2]
          · cases l with
            | nil => simp [R__law_up, F__law_up, upT, c, loopF_cons, x_B1__law_up]
            | node a2 b2 d2 => simp [R__law_up, F__law_up, upT, c, nl a2 b2 d2 rfl, loopF_cons, x_B1__law_up]
          · simp [upT, c, rowT]
        · have ih := up_ok (.node a b d) w n s2 hl (fun k' l' r' z => by cases z; exact fun y => e y.symm) h2
          obtain ⟨i1, i2, i3⟩ := ih
          simp only [dT_node] at i1 i2
          refine ⟨?_, ?_, ?_⟩
          · simp [R_up, F_up, upT, c, e, i1]
          · cases l with
            | nil => simp [R__law_up, F__law_up, upT, c, e, loopF_cons, x_B1__law_up, i2]
            | node a2 b2 d2 => simp [R__law_up, F__law_up, upT, c, e, nl a2 b2 d2 rfl, loopF_cons, x_B1__law_up, i2]
          · rw [show upT (.node k l (.node a b d)) w = .node k l (upT (.node a b d) w) by simp [upT, c, e]]
            simp only [rowT] at i3 ⊢
            rw [i3]
end Sk

namespace Sk
open PySem PySem.Spec PyProof.Rows L2
def rootIs : Tr → Wd → Bool
  | .nil, _ => false
  | .node k _ _, w => decide (k = w)
/-! ### turns that lead from a tree to another -/
def Leads : Tr → List Wd → Tr → Prop
  | t, [], u => t = u
  | t, w :: ws, u => w ∈ rowT t ∧ rootIs t w = false ∧ Leads (upT t w) ws u
theorem root_no {t : Tr} {w : Wd} (h : rootIs t w = false) : ∀ k l r, t = .node k l r → w ≠ k := fun k l r e z => by
  subst e z
  simp [rootIs] at h
theorem up_row {t : Tr} {w : Wd} (hs : (rowT t).Pairwise (· < ·)) (hm : w ∈ rowT t) (hr : rootIs t w = false) : rowT (upT t w) = rowT t :=
  (up_ok t w (hgt t + 1) hs hm (root_no hr) (Nat.lt_succ_self _)).2.2
theorem Leads.row : ∀ {ws : List Wd} {t u : Tr}, (rowT t).Pairwise (· < ·) → Leads t ws u → rowT u = rowT t
  | [], t, u, _, h => by rw [show t = u from h]
  | w :: ws, t, u, hs, ⟨h1, h2, h3⟩ => by
    have e := up_row hs h1 h2
    rw [Leads.row (by rw [e]; exact hs) h3, e]
theorem Leads.trans : ∀ {ws vs : List Wd} {t s u : Tr}, Leads t ws s → Leads s vs u → Leads t (ws ++ vs) u
  | [], vs, t, s, u, h, h2 => by rw [show t = s from h]; exact h2
  | w :: ws, vs, t, s, u, ⟨h1, h2, h3⟩, h4 => ⟨h1, h2, Leads.trans h3 h4⟩
theorem Leads.left {k : Wd} {r : Tr} : ∀ {ws : List Wd} {l l' : Tr}, (rowT (.node k l r)).Pairwise (· < ·) → Leads l ws l' → Leads (.node k l r) ws (.node k l' r)
  | [], l, l', _, h => by rw [show l = l' from h]; exact rfl
  | w :: ws, l, l', hs, ⟨h1, h2, h3⟩ => by
    obtain ⟨s1, s2, s3, s4⟩ := srt_parts hs
    have wk := s3 w h1
    have ne : ¬ k = w := fun z => by subst z; exact lt_irr wk
    have e := up_row s1 h1 h2
    have eu : upT (.node k l r) w = .node k (upT l w) r := by
      cases l with
      | nil => simp [rowT] at h1
      | node a b c =>
        have na : ¬ a = w := fun z => by subst z; simp [rootIs] at h2
        simp [upT, wk, na]
    refine ⟨by rw [row_split]; simp [h1], by simp [rootIs, ne], ?_⟩
    rw [eu]
    exact Leads.left (by rw [row_split, e, ← row_split]; exact hs) h3
theorem Leads.right {k : Wd} {l : Tr} : ∀ {ws : List Wd} {r r' : Tr}, (rowT (.node k l r)).Pairwise (· < ·) → Leads r ws r' → Leads (.node k l r) ws (.node k l r')
  | [], r, r', _, h => by rw [show r = r' from h]; exact rfl
  | w :: ws, r, r', hs, ⟨h1, h2, h3⟩ => by
    obtain ⟨s1, s2, s3, s4⟩ := srt_parts hs
    have wk := s4 w h1
    have ne : ¬ k = w := fun z => by subst z; exact lt_irr wk
    have e := up_row s2 h1 h2
    have eu : upT (.node k l r) w = .node k l (upT r w) := by
      cases r with
      | nil => simp [rowT] at h1
      | node a b c =>
        have na : ¬ a = w := fun z => by subst z; simp [rootIs] at h2
        simp [upT, lt_asy wk, na]
    refine ⟨by rw [row_split]; simp [h1], by simp [rootIs, ne], ?_⟩
    rw [eu]
    exact Leads.right (by rw [row_split, e, ← row_split]; exact hs) h3
/-- how deep a key lies -/
def dpt : Tr → Wd → Nat
  | .nil, _ => 0
  | .node k l r, w => if k = w then 0 else if w < k then dpt l w + 1 else dpt r w + 1
theorem dpt_lt : ∀ {t : Tr} {w : Wd}, (rowT t).Pairwise (· < ·) → w ∈ rowT t → dpt t w < sizeT t
  | .nil, w, _, h => by simp [rowT] at h
  | .node k l r, w, hs, h => by
    obtain ⟨s1, s2, s3, s4⟩ := srt_parts hs
    rw [row_split] at h
    simp only [List.mem_append, List.mem_cons] at h
    unfold dpt
    simp only [sizeT]
    by_cases c : k = w
    · rw [if_pos c]; omega
    · rw [if_neg c]
      by_cases d : w < k
      · rw [if_pos d]
        have hl : w ∈ rowT l := by
          rcases h with h | h | h
          · exact h
          · exact absurd h.symm c
          · exact absurd d (lt_asy (s4 w h))
        have := dpt_lt s1 hl
        omega
      · rw [if_neg d]
        have hl : w ∈ rowT r := by
          rcases h with h | h | h
          · exact absurd (s3 w h) d
          · exact absurd h.symm c
          · exact h
        have := dpt_lt s2 hl
        omega
theorem dpt_up : ∀ {t : Tr} {w : Wd}, (rowT t).Pairwise (· < ·) → w ∈ rowT t → rootIs t w = false → dpt (upT t w) w + 1 = dpt t w
  | .nil, w, _, h, _ => by simp [rowT] at h
  | .node k l r, w, hs, h, hr => by
    obtain ⟨s1, s2, s3, s4⟩ := srt_parts hs
    have c : ¬ k = w := fun z => root_no hr k l r rfl z.symm
    rw [row_split] at h
    simp only [List.mem_append, List.mem_cons] at h
    by_cases d : w < k
    · have hl : w ∈ rowT l := by
        rcases h with h | h | h
        · exact h
        · exact absurd h.symm c
        · exact absurd d (lt_asy (s4 w h))
      cases l with
      | nil => simp [rowT] at hl
      | node a b e =>
        by_cases na : a = w
        · subst na
          simp [upT, dpt, d, c]
        · have ih := dpt_up (t := .node a b e) s1 hl (by simp [rootIs, na])
          rw [show upT (.node k (.node a b e) r) w = .node k (upT (.node a b e) w) r by simp [upT, d, na]]
          rw [show dpt (.node k (upT (.node a b e) w) r) w = dpt (upT (.node a b e) w) w + 1 by rw [dpt, if_neg c, if_pos d]]
          rw [show dpt (.node k (.node a b e) r) w = dpt (.node a b e) w + 1 by rw [dpt, if_neg c, if_pos d]]
          omega
    · have hl : w ∈ rowT r := by
        rcases h with h | h | h
        · exact absurd (s3 w h) d
        · exact absurd h.symm c
        · exact h
      cases r with
      | nil => simp [rowT] at hl
      | node a b e =>
        by_cases na : a = w
        · subst na
          simp [upT, dpt, d, c]
        · have ih := dpt_up (t := .node a b e) s2 hl (by simp [rootIs, na])
          rw [show upT (.node k l (.node a b e)) w = .node k l (upT (.node a b e) w) by simp [upT, d, na]]
          rw [show dpt (.node k l (upT (.node a b e) w)) w = dpt (upT (.node a b e) w) w + 1 by rw [dpt, if_neg c, if_neg d]]
          rw [show dpt (.node k l (.node a b e)) w = dpt (.node a b e) w + 1 by rw [dpt, if_neg c, if_neg d]]
          omega
theorem split_uniq : ∀ {a b c d : List Wd} {k : Wd}, k ∉ a → k ∉ c → a ++ k :: b = c ++ k :: d → a = c ∧ b = d
  | [], b, [], d, k, _, _, h => by simp at h; exact ⟨rfl, h⟩
  | [], b, y :: c, d, k, _, h2, h => by
    simp only [List.nil_append, List.cons_append, List.cons.injEq] at h
    exact absurd (by rw [h.1]; exact List.mem_cons_self) h2
  | x :: a, b, [], d, k, h1, _, h => by
    simp only [List.nil_append, List.cons_append, List.cons.injEq] at h
    exact absurd (by rw [← h.1]; exact List.mem_cons_self) h1
  | x :: a, b, y :: c, d, k, h1, h2, h => by
    simp only [List.cons_append, List.cons.injEq] at h
    obtain ⟨e1, e2⟩ := split_uniq (fun z => h1 (List.mem_cons_of_mem _ z)) (fun z => h2 (List.mem_cons_of_mem _ z)) h.2
    exact ⟨by rw [h.1, e1], e2⟩
abbrev wayC : Ev → Rs Bool := bE (e2 opNe (e2 opIx (eV 0) (eC (.int 0))) (e2 opIx (eV 1) (eC (.int 0))))
theorem way_loop (n : Nat) (rw' : List D → Rs D) (k : Wd) (ul ur : Tr) : ∀ (f : Nat) (t : Tr) (acc : List Wd), dpt t k < f → (rowT t).Pairwise (· < ·) → k ∈ rowT t → sizeT t < n → acc.length + f ≤ 10000 →
    ∃ l r, whileN wayC (B1_ways (R_up n) rw') f [.sh (dT t), .sh (dT (.node k ul ur)), .ow (dLS acc)] = .ok (.nx [.sh (dT (.node k l r)), .sh (dT (.node k ul ur)), .ow (dLS (acc ++ List.replicate (dpt t k) k))]) ∧ Leads t (List.replicate (dpt t k) k) (.node k l r)
  | 0, _, _, h, _, _, _, _ => by omega
  | f + 1, .nil, _, _, _, h, _, _ => by simp [rowT] at h
  | f + 1, .node a l r, acc, hd, hs, hm, hn, ha => by
    by_cases c : a = k
    · subst c
      refine ⟨l, r, ?_, by simp [dpt]; exact rfl⟩
      simp [whileN, dpt]
    · have hr : rootIs (.node a l r) k = false := by simp [rootIs, c]
      have du := dpt_up hs hm hr
      have ur' := up_row hs hm hr
      have hh := hgt_size (.node a l r)
      obtain ⟨u1, _, _⟩ := up_ok (.node a l r) k n hs hm (root_no hr) (by omega)
      obtain ⟨l', r', i1, i2⟩ := way_loop n rw' k ul ur f (upT (.node a l r) k) (acc ++ [k]) (by omega) (by rw [ur']; exact hs) (by rw [ur']; exact hm) (by rw [← row_len, ur', row_len]; exact hn) (by rw [List.length_append]; simp; omega)
      refine ⟨l', r', ?_, ?_⟩
      · have ak : acc.length ≤ 100000 := by omega
        have e9 : List.replicate (dpt (.node a l r) k) k = k :: List.replicate (dpt (upT (.node a l r) k) k) k := by rw [← du, List.replicate_succ]
        rw [e9]
        have e8 : PyData.list (acc.map dS ++ [dS k]) = dLS (acc ++ [k]) := by simp [dLS]
        simp only [dT_node] at u1 i1
        simp [whileN, c, x_B1_ways, ak, u1, e8, i1]
      · rw [← du, List.replicate_succ]
        exact ⟨hm, hr, i2⟩
theorem ways_ok : ∀ (m : Nat) (t u : Tr) (n : Nat), sizeT t = m → m ≤ 12 → (rowT t).Pairwise (· < ·) → rowT u = rowT t → m + 1 < n → ∃ ws, R_ways n [dT t, dT u] = .ok (dLS ws) ∧ 2 * ws.length + m ≤ m * m ∧ Leads t ws u := by
  intro m
  induction m using Nat.strongRecOn with
  | ind m ih =>
    intro t u n hz hm hs hu hn
    obtain ⟨n, rfl⟩ : ∃ k, n = k + 1 := ⟨n - 1, by omega⟩
    cases t with
    | nil =>
      cases u with
      | node k l r => rw [row_split] at hu; simp [rowT] at hu
      | nil =>
        simp only [sizeT] at hz
        subst hz
        exact ⟨[], by simp [R_ways, F_ways, dLS], by simp, rfl⟩
    | node a l0 r0 =>
      cases u with
      | nil => rw [row_split] at hu; simp [rowT] at hu
      | node k ul ur =>
        have km : k ∈ rowT (.node a l0 r0) := by rw [← hu, row_split]; simp
        have dl := dpt_lt hs km
        have hsu : (rowT (.node k ul ur)).Pairwise (· < ·) := by rw [hu]; exact hs
        obtain ⟨l, r, w1, w2⟩ := way_loop n (R_ways n) k ul ur 1000 (.node a l0 r0) [] (by omega) hs km (by omega) (by simp)
        have rr := Leads.row hs w2
        have hst : (rowT (.node k l r)).Pairwise (· < ·) := by rw [rr]; exact hs
        obtain ⟨p1, p2, p3, p4⟩ := srt_parts hst
        obtain ⟨q1, q2, q3, q4⟩ := srt_parts hsu
        have eq : rowT l ++ k :: rowT r = rowT ul ++ k :: rowT ur := by rw [← row_split, ← row_split, rr, hu]
        obtain ⟨e1, e2⟩ := split_uniq (fun z => lt_irr (p3 k z)) (fun z => lt_irr (q3 k z)) eq
        have sz : sizeT l + 1 + sizeT r = m := by rw [← hz, ← row_len (.node a l0 r0), ← rr, row_len]; rfl
        obtain ⟨x1, f1, b1, g1⟩ := ih (sizeT l) (by omega) l ul n rfl (by omega) p1 e1.symm (by omega)
        obtain ⟨x2, f2, b2, g2⟩ := ih (sizeT r) (by omega) r ur n rfl (by omega) p2 e2.symm (by omega)
        have hl1 := Leads.row p1 g1
        refine ⟨List.replicate (dpt (.node a l0 r0) k) k ++ x1 ++ x2, ?_, ?_, ?_⟩
        · have c1 : sizeT l * sizeT l ≤ 12 * 12 := Nat.mul_le_mul (by omega) (by omega)
          have c2 : sizeT r * sizeT r ≤ 12 * 12 := Nat.mul_le_mul (by omega) (by omega)
          have c3 : dpt (.node a l0 r0) k + x1.length ≤ 100000 := by omega
          have c4 : dpt (.node a l0 r0) k + x1.length + x2.length ≤ 100000 := by omega
          simp only [dT_node, List.nil_append] at w1
          simp [R_ways, F_ways, dLS_nil, w1, f1, f2, c3, c4]
        · simp only [List.length_append, List.length_replicate]
          subst sz
          have z : (sizeT l + 1 + sizeT r) * (sizeT l + 1 + sizeT r) = sizeT l * sizeT l + sizeT r * sizeT r + sizeT l * sizeT r + sizeT r * sizeT l + 2 * sizeT l + 2 * sizeT r + 1 := by
            simp only [Nat.mul_add, Nat.add_mul, Nat.one_mul, Nat.mul_one]; omega
          rw [z]
          omega
        · exact Leads.trans (Leads.trans w2 (Leads.left hst g1)) (Leads.right (by rw [row_split, hl1, ← row_split]; exact hst) g2)
theorem r_turns (n : Nat) {ks : List Wd} {t u : Tr} (hk : Keys ks) (hr : rowT t = ks) (hu : rowT u = ks) (hn : 30 ≤ n) : ∃ ws, R_turns n [dLS ks, dT t, dT u] = .ok (dLS ws) ∧ 2 * ws.length + ks.length ≤ ks.length * ks.length ∧ Leads t ws u := by
  obtain ⟨n, rfl⟩ : ∃ k, n = k + 29 := ⟨n - 29, by omega⟩
  have h1 := hgt_size t
  have h2 := hgt_size u
  have z1 := row_len t
  have z2 := row_len u
  have hl := hk.len
  rw [hr] at z1
  rw [hu] at z2
  obtain ⟨ws, e, b, g⟩ := ways_ok ks.length t u (n + 28) z1.symm hk.len (by rw [hr]; exact hk.srt) (by rw [hr, hu]) (by omega)
  have e1 := ask_keys_ok (n + 25) hk
  have e2 := ask_tree_ok (n + 28) hk hr (by omega)
  have e3 := ask_tree_ok (n + 28) hk hu (by omega)
  exact ⟨ws, by simp [R_turns, F_turns, e1, e2, e3, e], b, g⟩
end Sk

namespace Sk
open PySem PySem.Spec PyProof.Rows L2
theorem max_if (i j : Int) : (if j > i then j else i) = max i j := by omega
theorem r_height : ∀ (t : Tr) (n : Nat), hgt t < n → R_height n [dT t] = .ok (.int (hgt t))
  | .nil, n + 1, _ => by simp [R_height, F_height, hgt]
  | .node k l r, n + 1, h => by
    have h1 : hgt l < n := by simp [hgt] at h; omega
    have h2 : hgt r < n := by simp [hgt] at h; omega
    have e : ((1 : Int) + if (hgt l : Int) < (hgt r : Int) then (hgt r : Int) else (hgt l : Int)) = ((hgt (.node k l r) : Nat) : Int) := by simp only [hgt]; omega
    simp [R_height, F_height, r_height l n h1, r_height r n h2] at e ⊢
    exact e
theorem r_lheight : ∀ (t : Tr) (n : Nat), hgt t < n → R__law_height n [dT t] = .ok (.int (hgt t))
  | .nil, n + 1, _ => by simp [R__law_height, F__law_height, hgt]
  | .node k l r, n + 1, h => by
    have h1 : hgt l < n := by simp [hgt] at h; omega
    have h2 : hgt r < n := by simp [hgt] at h; omega
    have e : ((1 : Int) + if (hgt l : Int) < (hgt r : Int) then (hgt r : Int) else (hgt l : Int)) = ((hgt (.node k l r) : Nat) : Int) := by simp only [hgt]; omega
    simp [R__law_height, F__law_height, r_lheight l n h1, r_lheight r n h2] at e ⊢
    exact e
def dueL : List Nat := [0, 1, 2, 2, 3, 3, 3, 3, 4, 4, 4, 4, 4]
def dueN (n : Nat) : Nat := dueL.getD n 0
theorem due_step : ∀ n, 1 ≤ n → n ≤ 12 → dueN n = 1 + max (dueN (n / 2)) (dueN (n - (n / 2 + 1))) := by
  have : ∀ n < 13, 1 ≤ n → dueN n = 1 + max (dueN (n / 2)) (dueN (n - (n / 2 + 1))) := by decide
  exact fun n h1 h2 => this n (by omega) h1
theorem r_halved : ∀ (m : Nat) (n : Nat) (ks : List Wd), ks.length = m → m < n → m ≤ 12 → ∃ t, R_halved n [dLS ks] = .ok (dT t) ∧ rowT t = ks ∧ hgt t = dueN m := by
  intro m
  induction m using Nat.strongRecOn with
  | ind m ih =>
    intro n ks hl hn hm
    obtain ⟨n, rfl⟩ : ∃ k, n = k + 1 := ⟨n - 1, by omega⟩
    by_cases c : m = 0
    · subst c
      have : ks = [] := List.length_eq_zero_iff.mp hl
      subst this
      exact ⟨.nil, by simp [R_halved, F_halved], rfl, rfl⟩
    · have hp : m / 2 < ks.length := by omega
      obtain ⟨l, el, rl, gl⟩ := ih (m / 2) (by omega) n (ks.take (m / 2)) (by rw [List.length_take]; omega) (by omega) (by omega)
      obtain ⟨r, er, rr, gr⟩ := ih (m - (m / 2 + 1)) (by omega) n (ks.drop (m / 2 + 1)) (by rw [List.length_drop]; omega) (by omega) (by omega)
      refine ⟨.node ks[m / 2] l r, ?_, ?_, by simp only [hgt, gl, gr]; exact (due_step m (by omega) hm).symm⟩
      · have c1 : ¬ (m : Int) = 0 := by omega
        have c2 : ¬ ks = [] := fun z => by subst z; simp at hl; omega
        have ea : atI ks ((m : Int) / 2) = some ks[m / 2] := by rw [atI_nat (by omega), show ((m : Int) / 2).toNat = m / 2 by omega, List.getElem?_eq_getElem hp]
        have z1 := cut_take ks ((m : Int) / 2) (by omega)
        have z2 := cut_drop ks ((m : Int) / 2 + 1) (by omega)
        rw [show ((m : Int) / 2).toNat = m / 2 by omega] at z1
        rw [show ((m : Int) / 2 + 1).toNat = m / 2 + 1 by omega] at z2
        simp [R_halved, F_halved, hl, c, c1, c2, ea, z1, z2, el, er]
      · rw [row_split, rl, rr]
        rw [show ks[m / 2] :: ks.drop (m / 2 + 1) = ks.drop (m / 2) from (List.drop_eq_getElem_cons hp).symm, List.take_append_drop]
theorem size_pow : ∀ t, sizeT t + 1 ≤ 2 ^ hgt t
  | .nil => by simp [sizeT, hgt]
  | .node k l r => by
    have h1 := size_pow l
    have h2 := size_pow r
    simp only [sizeT, hgt]
    have h3 : 2 ^ hgt l ≤ 2 ^ max (hgt l) (hgt r) := Nat.pow_le_pow_right (by decide) (Nat.le_max_left _ _)
    have h4 : 2 ^ hgt r ≤ 2 ^ max (hgt l) (hgt r) := Nat.pow_le_pow_right (by decide) (Nat.le_max_right _ _)
    rw [Nat.pow_add, Nat.pow_one]
    omega
theorem due_least (t : Tr) (m : Nat) (h : sizeT t = m) (hm : m ≤ 12) : dueN m ≤ hgt t := by
  have h1 := size_pow t
  rw [h] at h1
  have key : ∀ m < 13, ∀ g < 4, m + 1 ≤ 2 ^ g → dueN m ≤ g := by decide
  by_cases c : hgt t < 4
  · exact key m (by omega) _ c h1
  · have : ∀ m < 13, dueN m ≤ 4 := by decide
    have := this m (by omega)
    omega
theorem r_even (n : Nat) {ks : List Wd} (hk : Keys ks) (hn : 15 ≤ n) : ∃ t, R_even n [dLS ks] = .ok (dT t) ∧ rowT t = ks ∧ hgt t = dueN ks.length := by
  obtain ⟨n, rfl⟩ : ∃ k, n = k + 14 := ⟨n - 14, by omega⟩
  obtain ⟨t, h1, h2, h3⟩ := r_halved ks.length (n + 13) ks rfl (by have := hk.len; omega) hk.len
  have e1 := ask_keys_ok (n + 10) hk
  exact ⟨t, by simp [R_even, F_even, e1, h1], h2, h3⟩
theorem r_most (n : Nat) {ks : List Wd} {t : Tr} (hk : Keys ks) (hr : rowT t = ks) (hh : hgt t ≤ 12) (hn : 15 ≤ n) : R_most_steps n [dLS ks, dT t] = .ok (.int (hgt t)) := by
  obtain ⟨n, rfl⟩ : ∃ k, n = k + 14 := ⟨n - 14, by omega⟩
  have e1 := ask_keys_ok (n + 10) hk
  have e2 := ask_tree_ok (n + 13) hk hr (by omega)
  have e3 := r_height t (n + 13) (by omega)
  simp [R_most_steps, F_most_steps, e1, e2, e3]
theorem pure_k12 (ns : List Int) (h : ns.length ≤ 63) : R_law_k12 60 [.list (ns.map .int)] = .ok (.bool true) := by
  obtain ⟨m, ks, hm, hm12, hks, hk, hl⟩ := start12 ns
  obtain ⟨t, ht, hr, hz, hh⟩ := tree0 59 m hl (by omega) (cellAt ns 42)
  have e0 : R__law_keys 59 [dLI ns, .int m] = .ok (dLS ks) := by rw [← hks]; exact r_keys 57 ns m (by omega) (by omega)
  obtain ⟨t2, e1, hr2, hg2⟩ := r_even 59 hk (by omega)
  rw [hl] at hg2
  have hz2 : hgt t2 ≤ 12 := by rw [hg2]; have : ∀ m < 13, dueN m ≤ 4 := by decide
                               have := this m (by omega); omega
  have e2 := r_is_tree t2 59 (by omega) (by rw [hr2]; exact nodup_of_srt hk.srt) (by rw [hr2]; exact hk.oks)
  rw [hr2] at e2
  have e3 := r_lheight t2 59 (by omega)
  have e4 := r_most 59 hk hr2 hz2 (by omega)
  have e5 := r_lheight t 59 (by omega)
  have e6 := r_most 59 hk hr (by omega) (by omega)
  have e7 := r_whole 58 (hgt t)
  have s1 := ne_self hk.shL
  have s2 := eq_self hk.shL
  have ix : atI [.int 0, .int 1, .int 2, .int 2, .int 3, .int 3, .int 3, .int 3, .int 4, .int 4, .int 4, .int 4, .int 4] (m : Int) = some (PyData.int (dueN m)) := by
    rw [atI_nat (by omega), Int.toNat_natCast]
    have key : ∀ m < 13, (dueL.map fun k : Nat => (k : Int))[m]? = some (dueN m : Int) := by decide
    have := key m (by omega)
    have e : ([.int 0, .int 1, .int 2, .int 2, .int 3, .int 3, .int 3, .int 3, .int 4, .int 4, .int 4, .int 4, .int 4] : List D) = (dueL.map fun k : Nat => (k : Int)).map .int := rfl
    rw [e, List.getElem?_map, this]; rfl
  have d1 := due_least t m hz hm12
  have d2 : (dueN m : Int) ≤ hgt t := by omega
  rw [hg2] at e3 e4
  show R_law_k12 60 [dLI ns] = _
  simp [R_law_k12, F_law_k12, r_cell, r_many, hm, hm12, e0, e1, e2, s1, ix, e3, e4, ht, e6, e7, e5, d1, s2]
end Sk

namespace Sk
open PySem PySem.Spec PyProof.Rows L2
theorem isL_ok {w : Wd} (h : okWord w) : ∀ c ∈ w, isL c = true := fun c hc => decide_eq_true (h.2.2 c hc)
theorem text_bound : ∀ t : Tr, (∀ w ∈ rowT t, w.length ≤ 8) → (textT t).length ≤ 13 * sizeT t + 1
  | .nil, _ => by simp [textT]
  | .node k l r, h => by
    have h1 := text_bound l fun w hw => h w (by rw [row_split]; simp [hw])
    have h2 := text_bound r fun w hw => h w (by rw [row_split]; simp [hw])
    have h3 := h k (by rw [row_split]; simp)
    rw [text_len]
    simp only [sizeT]
    omega
theorem cnt_app (a b : Wd) : cnt (a ++ b) 0 = cnt a 0 + cnt b 0 := by simp [cnt]
theorem cnt_cons (c : Nat) (a : Wd) : cnt (c :: a) 0 = (if c = 40 then 1 else 0) + cnt a 0 := by
  unfold cnt
  rw [List.drop_zero, List.drop_zero, List.filter_cons]
  by_cases h : c = 40
  · simp [h]; omega
  · simp [h]
theorem cnt_word {k : Wd} (h : ∀ c ∈ k, isL c = true) : cnt k 0 = 0 := by
  unfold cnt
  rw [List.drop_zero, List.length_eq_zero_iff, List.filter_eq_nil_iff]
  intro c hc
  have := of_decide_eq_true (h c hc)
  simp
  omega
theorem cnt_text : ∀ t : Tr, (∀ w ∈ rowT t, ∀ c ∈ w, isL c = true) → cnt (textT t) 0 = sizeT t
  | .nil, _ => by simp [textT, cnt, sizeT]
  | .node k l r, h => by
    have h1 := cnt_text l fun w hw => h w (by rw [row_split]; simp [hw])
    have h2 := cnt_text r fun w hw => h w (by rw [row_split]; simp [hw])
    have h3 := cnt_word (h k (by rw [row_split]; simp))
    simp [textT, cnt_app, cnt_cons, h1, h2, h3, sizeT]
    simp [cnt]
    omega
theorem parse_own {t : Tr} {f : Nat} (h : hgt t < f) (hw : ∀ w ∈ rowT t, ∀ c ∈ w, isL c = true) : parse f (textT t) 0 = some (t, (textT t).length) := by
  have := parse_text t f [] [] h hw
  simpa using this
theorem r_shown (n : Nat) {ks : List Wd} {t : Tr} (hk : Keys ks) (hr : rowT t = ks) (hh : hgt t ≤ 12) (hs : (textT t).length ≤ 100000) (hn : 15 ≤ n) : R_shown n [dLS ks, dT t] = .ok (dS (textT t)) := by
  obtain ⟨n, rfl⟩ : ∃ k, n = k + 14 := ⟨n - 14, by omega⟩
  have e1 := ask_keys_ok (n + 10) hk
  have e2 := ask_tree_ok (n + 13) hk hr (by omega)
  have e3 := r_written t (n + 13) (by omega) hs
  simp [R_shown, F_shown, e1, e2, e3]
theorem pure_k15 (ns : List Int) (h : ns.length ≤ 63) : R_law_k15 60 [.list (ns.map .int)] = .ok (.bool true) := by
  obtain ⟨m, ks, hm, hm12, hks, hk, hl⟩ := start12 ns
  obtain ⟨t, ht, hr, hz, hh⟩ := tree0 59 m hl (by omega) (cellAt ns 42)
  have e0 : R__law_keys 59 [dLI ns, .int m] = .ok (dLS ks) := by rw [← hks]; exact r_keys 57 ns m (by omega) (by omega)
  have hw : ∀ w ∈ rowT t, ∀ c ∈ w, isL c = true := by rw [hr]; exact fun w h => isL_ok (hk.word w h)
  have tb := text_bound t (by rw [hr]; exact fun w h => (hk.word w h).2.1)
  have e1 := r_text t 59 (by omega) (by omega)
  have e2 := r_shown 59 hk hr (by omega) (by omega) (by omega)
  have e3 := r_read (textT t) (by omega) 57 (by rw [cnt_text t hw]; omega)
  rw [parse_own (by omega) hw] at e3
  have kb : keysB (rowT t) = true := by rw [hr]; exact (keysB_iff ks).mpr hk
  simp only [outR, kb, and_self, if_true] at e3
  have e4 := r_is_tree t 59 (by omega) (by rw [hr]; exact nodup_of_srt hk.srt) (by rw [hr]; exact hk.oks)
  rw [hr] at e4
  have s1 := ne_self hk.shL
  have s2 := eq_self (sh_T (t := t) (by unfold okT; rw [hr]; exact hk.oks) (by omega))
  show R_law_k15 60 [dLI ns] = _
  simp [R_law_k15, F_law_k15, r_cell, r_many, hm, hm12, e0, ht, e1, e2, s1, e3, e4, s2]
end Sk

namespace Sk
open PySem PySem.Spec PyProof.Rows L2
/-! ### spoiled keys -/
theorem not_keys {ks : List Wd} (h : ¬ Keys ks) : keysB ks = false := by
  cases c : keysB ks with
  | false => rfl
  | true => exact absurd ((keysB_iff ks).mp c) h
theorem mod_nat {c m : Int} (hm : 0 < m) : ∃ k : Nat, c % m = k ∧ (k : Int) < m := ⟨(c % m).toNat, by have := Int.emod_nonneg c (b := m) (by omega); omega, by have := Int.emod_nonneg c (b := m) (by omega); have := Int.emod_lt_of_pos c hm; omega⟩
theorem bad_rev {ks : List Wd} (hk : Keys ks) (h : 1 < ks.length) : ¬ Keys ks.reverse := fun z => by
  have s1 := hk.srt
  have s2 := List.pairwise_reverse.mp z.srt
  match ks, h, s1, s2 with
  | a :: b :: l, _, s1, s2 => exact lt_asy ((List.pairwise_cons.mp s1).1 b List.mem_cons_self) ((List.pairwise_cons.mp s2).1 b List.mem_cons_self)
theorem bad_twice {ks : List Wd} {p : Nat} (h : p < ks.length) : ¬ Keys (ks.take (p + 1) ++ ks.drop p) := fun z => by
  have s := (List.pairwise_append.mp z.srt).2.2
  have m1 : ks[p] ∈ ks.take (p + 1) := by
    rw [List.mem_take_iff_getElem]
    exact ⟨p, by omega, rfl⟩
  have m2 : ks[p] ∈ ks.drop p := by
    rw [List.drop_eq_getElem_cons h]; exact List.mem_cons_self
  exact lt_irr (s _ m1 _ m2)
theorem bad_swap {ks : List Wd} (hk : Keys ks) {p : Nat} (h : p + 1 < ks.length) (a b : List Wd) : ¬ (a ++ [ks[p + 1], ks[p]] ++ b).Pairwise (· < ·) := fun z => by
  have s := (List.pairwise_append.mp (List.pairwise_append.mp z).1).2.1
  have s2 := (List.pairwise_cons.mp s).1 ks[p] (by simp)
  exact lt_asy s2 (List.pairwise_iff_getElem.mp hk.srt p (p + 1) (by omega) h (Nat.lt_succ_self p))
theorem bad_word {a b : List Wd} {w : Wd} (h : ¬ okWord w) : ¬ Keys (a ++ [w] ++ b) := fun z => h (z.word w (by simp))
theorem bad_many {ks : List Wd} (h : 12 < ks.length) : ¬ Keys ks := fun z => by have := z.len; omega
def oddW : List Wd := [[], [122, 122, 122, 122, 122, 122, 122, 122, 122], [90, 98], [122, 32, 98], [122, 49], [122, 45], [122, 9]]
theorem lit_odd : (PyData.list [.str "", .str "zzzzzzzzz", .str "Zb", .str "z b", .str "z1", .str "z-", .str "z\t"]) = dLS oddW := by
  unfold dLS oddW dS
  simp only [List.map_cons, List.map_nil]
  congr 1
theorem odd_bad : ∀ i < 7, ∃ w, oddW[i]? = some w ∧ ¬ okWord w ∧ w.length ≤ 9 := by decide
def moreW : Wd := [97, 98, 99, 100, 101, 102, 103, 104, 105, 106, 107, 108, 109, 110, 111, 112, 113, 114, 115, 116]
theorem lit_more : (PyData.str "abcdefghijklmnopqrst") = dS moreW := by unfold dS; congr 1
def moreG (k : Nat) : Nat := moreW.getD k 0
theorem lit_y : (PyData.str "y") = dS [121] := by unfold dS; congr 1
theorem r_bad_keys (n : Nat) {ks : List Wd} (hk : Keys ks) (h1 : 1 ≤ ks.length) (c : Int) : ∃ ks', R__law_bad_keys (n + 1) [dLS ks, .int c] = .ok (dLS ks') ∧ keysB ks' = false ∧ ks'.length ≤ 1000 ∧ ∀ w ∈ ks', w.length ≤ 100000 := by
  obtain ⟨m, hm⟩ : ∃ m, ks.length = m := ⟨_, rfl⟩
  have h12 := hk.len
  rw [hm] at h1 h12
  have hw : ∀ w ∈ ks, w.length ≤ 100000 := fun w h => by have := (hk.word w h).2.1; omega
  obtain ⟨p, hp, hp2⟩ := mod_nat (c := c / 8) (m := (m : Int)) (by omega)
  obtain ⟨y, hy, hy2⟩ := mod_nat (c := c) (m := 8) (by decide)
  obtain ⟨x, hx, hx2⟩ := mod_nat (c := c / 8) (m := 8) (by decide)
  obtain ⟨z, hz, hz2⟩ := mod_nat (c := c / 8) (m := 7) (by decide)
  have m0 : 0 < m := by omega
  have m0' : (0 : Int) < m := by omega
  have pl : p < ks.length := by omega
  have t1 := cut_take ks ((p : Int) + 1) (by omega)
  have t2 := cut_drop ks (p : Int) (by omega)
  have t3 := cut_drop ks ((p : Int) + 1) (by omega)
  have t4 := cut_take ks (p : Int) (by omega)
  rw [show ((p : Int) + 1).toNat = p + 1 by omega] at t1 t3
  rw [Int.toNat_natCast] at t2 t4
  have old : ∀ {l : List Wd}, (∀ w ∈ l, w ∈ ks) → ∀ w ∈ l, w.length ≤ 100000 := fun h w hwl => hw w (h w hwl)
  obtain ⟨ow, o1, o2, o3⟩ := odd_bad z (by omega)
  have last : ∃ ks', (ks.take p ++ [ow] ++ ks.drop (p + 1)) = ks' ∧ keysB ks' = false ∧ ks'.length ≤ 1000 ∧ ∀ w ∈ ks', w.length ≤ 100000 := by
    refine ⟨_, rfl, not_keys (bad_word o2), by simp; omega, fun w hwl => ?_⟩
    simp only [List.mem_append, List.mem_singleton] at hwl
    rcases hwl with (h | h) | h
    · exact hw w (List.mem_of_mem_take h)
    · subst h; omega
    · exact hw w (List.mem_of_mem_drop h)
  obtain ⟨lk, k1, k2, k3, k4⟩ := last
  have o1' : atI oddW (z : Int) = some ow := by rw [atI_nat (by omega), Int.toNat_natCast, o1]
  have tl : min p m + 1 + (m - (p + 1)) ≤ 100000 := by omega
  have tl2 : min p m ≤ 99999 := by omega
  have lastE : (dLS (ks.take p ++ (ow :: ks.drop (p + 1)))) = dLS lk := by rw [← k1]; simp
  by_cases c0 : y = 0 ∧ 1 < m
  · obtain ⟨rfl, c0⟩ := c0
    have c0' : (1 : Int) < m := by omega
    refine ⟨ks.reverse, ?_, not_keys (bad_rev hk (by omega)), by simp; omega, old fun w h => by simpa using h⟩
    simp [R__law_bad_keys, F__law_bad_keys, hm, m0, m0', hp, hy, c0, c0']
  · by_cases c1 : y = 1
    · subst c1
      refine ⟨ks.take (p + 1) ++ ks.drop p, ?_, not_keys (bad_twice pl), by simp; omega, old fun w h => ?_⟩
      · have l2 : min (p + 1) m + (m - p) ≤ 100000 := by omega
        simp [R__law_bad_keys, F__law_bad_keys, hm, m0, m0', hp, hy, t1, t2, l2]
      · rcases List.mem_append.mp h with h | h
        · exact List.mem_of_mem_take h
        · exact List.mem_of_mem_drop h
    · by_cases c3 : y = 3 ∧ 0 < p
      · obtain ⟨rfl, c3⟩ := c3
        obtain ⟨q, rfl⟩ : ∃ q, p = q + 1 := ⟨p - 1, by omega⟩
        have a1 : atI ks ((q + 1 : Nat) : Int) = some ks[q + 1] := by rw [atI_nat (by omega), Int.toNat_natCast, List.getElem?_eq_getElem pl]
        have a2 : atI ks ((q : Int)) = some ks[q] := by rw [atI_nat (by omega), Int.toNat_natCast, List.getElem?_eq_getElem (by omega)]
        have t5 := cut_take ks (q : Int) (by omega)
        rw [Int.toNat_natCast] at t5
        have e1 : ((q + 1 : Nat) : Int) - 1 = q := by omega
        refine ⟨ks.take q ++ [ks[q + 1], ks[q]] ++ ks.drop (q + 1 + 1), ?_, not_keys fun z => bad_swap hk pl _ _ z.srt, by simp; omega, old fun w h => ?_⟩
        · have l2 : min q m + 2 + (m - (q + 1 + 1)) ≤ 100000 := by omega
          have l3 : min q m ≤ 99998 := by omega
          have e2 : PyData.list [dS ks[q + 1], dS ks[q]] = dLS [ks[q + 1], ks[q]] := rfl
          simp only [Int.natCast_add, Int.natCast_one] at a1 e1 hp t3
          simp [R__law_bad_keys, F__law_bad_keys, hm, m0, m0', hp, hy, a1, a2, t5, t3, e1, e2, l2, l3]
        · simp only [List.mem_append, List.mem_cons, List.not_mem_nil, or_false] at h
          rcases h with (h | h | h) | h
          · exact List.mem_of_mem_take h
          · subst h; exact List.getElem_mem _
          · subst h; exact List.getElem_mem _
          · exact List.mem_of_mem_drop h
      · by_cases c2 : y = 2
        · subst c2
          obtain ⟨N, hN⟩ : ∃ N : Nat, (13 : Int) - m + x = N := ⟨((13 : Int) - m + x).toNat, by omega⟩
          have lc : mapF (fun _ => .ok true) (fun d => (opIx (dS moreW) d).bind fun b => opAdd (dS [121]) b) ((List.range N).map fun k : Nat => .int (k : Int)) = .ok ((List.range N).map fun k => dS [121, moreG k]) := by
            refine mapF_all (fun k : Nat => PyData.int (k : Int)) (fun k => dS [121, moreG k]) _ fun k hk' => ?_
            rw [List.mem_range] at hk'
            have kl : k < moreW.length := by show k < 20; omega
            have e : opIx (dS moreW) (.int (k : Int)) = .ok (dS [moreG k]) := by
              have e0 : (atI moreW (k : Int)) = some (moreG k) := by rw [atI_nat (by omega), Int.toNat_natCast, List.getElem?_eq_getElem kl]; simp [kl, moreG]
              show (if (⟨moreW.toArray⟩ : Str).length ≤ 100000 then rsO ((atI (⟨moreW.toArray⟩ : Str).cps.toList (k : Int)).map fun c => PyData.str ⟨#[c]⟩) else .bad) = _
              rw [if_pos (by decide)]
              show rsO ((atI moreW (k : Int)).map fun c => PyData.str ⟨#[c]⟩) = _
              rw [e0]; rfl
            rw [e, ok_bind', add_ok (by simp)]
            rfl
          have r1 := rng1_eq (N : Int) (by omega)
          rw [Int.toNat_natCast] at r1
          have fin : PyData.list ((List.range N).map fun k => dS [121, moreG k]) = dLS ((List.range N).map fun k => [121, moreG k]) := by unfold dLS; rw [List.map_map]; rfl
          have l2 : m + N ≤ 100000 := by omega
          have l3 : N ≤ 100000 := by omega
          refine ⟨ks ++ (List.range N).map fun k => [121, moreG k], ?_, not_keys (bad_many (by simp; omega)), by simp; omega, fun w h => ?_⟩
          · simp [R__law_bad_keys, F__law_bad_keys, hm, m0, m0', hp, hy, hx, hN, r1, l3, lit_more, lit_y, -o_addS, -List.map_map] at lc ⊢
            simp [lc, fin, hm, l2, -List.map_map]
          · rcases List.mem_append.mp h with h | h
            · exact hw w h
            · obtain ⟨k, _, rfl⟩ := List.mem_map.mp h
              simp
        · refine ⟨lk, ?_, k2, k3, k4⟩
          have c0a : ¬ (y = 0 ∧ (1 : Int) < m) := fun z => c0 ⟨z.1, by omega⟩
          by_cases d0 : y = 0
          · subst d0
            have d1 : ¬ 1 < m := fun z => c0 ⟨rfl, z⟩
            have d1' : ¬ (1 : Int) < m := by omega
            simp [R__law_bad_keys, F__law_bad_keys, hm, m0, m0', hp, hy, d1, d1', hz, lit_odd, o1', t3, t4, tl, tl2, dLS_one, lastE]
          · by_cases d3 : y = 3
            · subst d3
              have d4 : ¬ 0 < p := fun z => c3 ⟨rfl, z⟩
              have d4' : ¬ (0 : Int) < p := by omega
              simp [R__law_bad_keys, F__law_bad_keys, hm, m0, m0', hp, hy, d4, d4', hz, lit_odd, o1', t3, t4, tl, tl2, dLS_one, lastE]
            · have d0' : ¬ (y : Int) = 0 := by omega
              have d1' : ¬ (y : Int) = 1 := by omega
              have d2' : ¬ (y : Int) = 2 := by omega
              have d3' : ¬ (y : Int) = 3 := by omega
              simp [R__law_bad_keys, F__law_bad_keys, hm, m0, m0', hp, hy, d0, d0', d1', d2', d3', c1, c2, d3, hz, lit_odd, o1', t3, t4, tl, tl2, dLS_one, lastE]
end Sk

namespace Sk
open PySem PySem.Spec PyProof.Rows L2
/-! ### spoiled weights -/
theorem not_wts {n : Nat} {hs ms : List Int} (h : ¬ Wts n hs ms) : wtsB n hs ms = false := by
  cases c : wtsB n hs ms with
  | false => rfl
  | true => exact absurd ((wtsB_iff n hs ms).mp c) h
theorem rows2 (a b : List Int) : PyData.list [dLI a, dLI b] = onD (rowsD [a, b]) := rfl
theorem rowsD2 (a b : List Int) : rowsD [a, b] = [a.map .int, b.map .int] := rfl
def spoil (f : List Int → List Int) (b : Bool) (p : List Int × List Int) : List Int × List Int := if b = true then (p.1, f p.2) else (f p.1, p.2)
theorem bad_one {m : Nat} {hs ms : List Int} (hw : Wts m hs ms) (i : Nat) (v : Int) (hv : v < 0 ∨ 1000000 < v) : (i < m → ¬ Wts m (hs.set i v) ms) ∧ (i < m + 1 → ¬ Wts m hs (ms.set i v)) := by
  constructor
  · intro hi z
    have := z.hr v (List.mem_set (by rw [hw.hl]; exact hi) v)
    omega
  · intro hi z
    have := z.mr v (List.mem_set (by rw [hw.ml]; exact hi) v)
    omega
theorem ixN_of {n : Nat} {i : Nat} (h : i < n) : ixN n (i : Int) = some i := by
  unfold ixN
  rw [if_pos (by omega), if_pos (by omega)]
  simp
theorem r_bad_weights (n : Nat) {m : Nat} {hs ms : List Int} (hw : Wts m hs ms) (h1 : 1 ≤ m) (h12 : m ≤ 12) (c : Int) :
    ∃ hs' ms', R__law_bad_weights (n + 1) [.list [dLI hs, dLI ms], .int c] = .ok (.list [dLI hs', dLI ms']) ∧ wtsB m hs' ms' = false ∧ hs'.length ≤ 1000 ∧ ms'.length ≤ 1000 := by
  have hl := hw.hl
  have ml := hw.ml
  obtain ⟨x, hx, hx2⟩ := mod_nat (c := c) (m := 2) (by decide)
  obtain ⟨y, hy, hy2⟩ := mod_nat (c := c / 8) (m := 3) (by decide)
  obtain ⟨w, hww, hw2⟩ := mod_nat (c := c / 2) (m := 4) (by decide)
  obtain ⟨v, hv, hv2⟩ := mod_nat (c := c / 2) (m := 2) (by decide)
  obtain ⟨far, hf, hf2⟩ := mod_nat (c := c / 100) (m := 1000000000000000) (by decide)
  have hp : opPow (.int 10) (.int 15) = .ok (.int 1000000000000000) := rfl
  have c1 : cutD hs (some 1) none = hs.drop 1 := cut_drop hs 1 (by decide)
  have c2 : cutD ms (some 1) none = ms.drop 1 := cut_drop ms 1 (by decide)
  have ne1 : hs ≠ [] := fun z => by rw [z] at hl; simp at hl; omega
  have ne2 : ms ≠ [] := fun z => by rw [z] at ml; simp at ml
  have m0 : 0 < m := by omega
  have on : ∀ a b : List Int, onB (.list [dLI a, dLI b]) (fun dss => (.ok dss : Rs (List (List D)))) = .ok (rowsD [a, b]) := fun a b => by rw [rows2, onB_on]
  have onk : ∀ {α : Type} (a b : List Int) (k : List (List D) → Rs α), onB (.list [dLI a, dLI b]) k = k (rowsD [a, b]) := fun a b k => by rw [rows2, onB_on]
  have one : PyData.list [PyData.int 1] = dLI [1] := rfl
  have hl9 : hs.length ≤ 99999 := by omega
  have ml9 : ms.length ≤ 99999 := by omega
  have hl8 : hs.length ≤ 100000 := by omega
  have ml8 : ms.length ≤ 100000 := by omega
  have p0 : (0 : Int) < m := by omega
  have m9 : m ≤ 99999 := by omega
  have m8 : m ≤ 99998 := by omega
  have m10 : m ≤ 100000 := by omega
  have p1 : (0 : Int) < (m : Int) + 1 := by omega
  have e2 : ∀ a b : List (List D), onD [a.flatten, b.flatten] = .list [.list a.flatten, .list b.flatten] := fun _ _ => rfl
  have onn : ∀ (a b : List D), onD [a, b] = .list [.list a, .list b] := fun _ _ => rfl
  have d1 : ∀ a : List Int, PyData.list (a.map .int) = dLI a := fun _ => rfl
  have ixa : ∀ a b : D, atI [a, b] 0 = some a ∧ atI [a, b] 1 = some b := fun a b => ⟨rfl, rfl⟩
  have ix2 : ixN 2 0 = some 0 ∧ ixN 2 1 = some 1 := ⟨rfl, rfl⟩
  have hx' : x = 0 ∨ x = 1 := by omega
  by_cases cy : y = 1
  · subst cy
    rcases hx' with rfl | rfl
    · refine ⟨hs ++ [1], ms ++ [1], ?_, not_wts fun z => ?_, by simp; omega, by simp; omega⟩
      · simp [R__law_bad_weights, F__law_bad_weights, hx, hy, hl, m0, p0, x_Nn, onk, rowsD2, onn, d1, one, hl9, ml9, ml, m8, m9, m10]
      · have := z.hl
        simp at this
        omega
    · refine ⟨hs.drop 1, ms.drop 1, ?_, not_wts fun z => ?_, by simp; omega, by simp; omega⟩
      · simp [R__law_bad_weights, F__law_bad_weights, hx, hy, ml, m0, p1, x_Nn, onk, rowsD2, onn, d1, c1, c2]
      · have := z.hl
        simp at this
        omega
  · have cy' : ¬ (y : Int) = 1 := by omega
    by_cases c0 : w = 0
    · subst c0
      rcases hx' with rfl | rfl
      · refine ⟨hs ++ [1], ms, ?_, not_wts fun z => ?_, by simp; omega, by omega⟩
        · simp [R__law_bad_weights, F__law_bad_weights, hx, hy, hl, m0, p0, x_Nn, onk, rowsD2, cy, cy', hww, x_Nap, ix2, hl8, m8, m9, m10]
          have e : onD [hs.map PyData.int ++ [PyData.int 1], ms.map PyData.int] = .list [dLI (hs ++ [1]), dLI ms] := by rw [onn]; simp [dLI]
          rw [e]
        · have := z.hl
          simp at this
          omega
      · refine ⟨hs, ms ++ [1], ?_, not_wts fun z => ?_, by omega, by simp; omega⟩
        · simp [R__law_bad_weights, F__law_bad_weights, hx, hy, ml, m0, p1, x_Nn, onk, rowsD2, cy, cy', hww, x_Nap, ix2, ml8, m8, m9, m10]
          have e : onD [hs.map PyData.int, ms.map PyData.int ++ [PyData.int 1]] = .list [dLI hs, dLI (ms ++ [1])] := by rw [onn]; simp [dLI]
          rw [e]
        · have := z.ml
          simp at this
          omega
    · by_cases c3 : w = 1
      · subst c3
        rcases hx' with rfl | rfl
        · refine ⟨hs.dropLast, ms, ?_, not_wts fun z => ?_, by simp; omega, by omega⟩
          · simp [R__law_bad_weights, F__law_bad_weights, hx, hy, hl, m0, p0, x_Nn, onk, rowsD2, cy, cy', hww, x_Npop, ix2, ne1]
            have e : onD [(hs.map PyData.int).dropLast, ms.map PyData.int] = .list [dLI hs.dropLast, dLI ms] := by rw [onn, ← List.map_dropLast]; rfl
            rw [e]
          · have := z.hl
            simp at this
            omega
        · refine ⟨hs, ms.dropLast, ?_, not_wts fun z => ?_, by omega, by simp; omega⟩
          · simp [R__law_bad_weights, F__law_bad_weights, hx, hy, ml, m0, p1, x_Nn, onk, rowsD2, cy, cy', hww, x_Npop, ix2, ne2]
            have e : onD [hs.map PyData.int, (ms.map PyData.int).dropLast] = .list [dLI hs, dLI ms.dropLast] := by rw [onn, ← List.map_dropLast]; rfl
            rw [e]
          · have := z.ml
            simp at this
            omega
      · have c0' : ¬ (w : Int) = 0 := by omega
        have c3' : ¬ (w : Int) = 1 := by omega
        obtain ⟨u, hu, hub⟩ : ∃ u : Int, atI [PyData.int (-1 - far), PyData.int (1000001 + far)] (v : Int) = some (.int u) ∧ (u < 0 ∨ 1000000 < u) := by
          have : v = 0 ∨ v = 1 := by omega
          rcases this with rfl | rfl
          · exact ⟨-1 - far, rfl, by omega⟩
          · exact ⟨1000001 + far, rfl, by omega⟩
        rcases hx' with rfl | rfl
        · obtain ⟨p, hpp, hp2⟩ := mod_nat (c := c / 8) (m := (m : Int)) (by omega)
          have ipn := ixN_of (n := m) (i := p) (by omega)
          refine ⟨hs.set p u, ms, ?_, not_wts ((bad_one hw p u hub).1 (by omega)), by simp; omega, by omega⟩
          simp [R__law_bad_weights, F__law_bad_weights, hx, hy, hl, m0, p0, x_Nn, onk, rowsD2, cy, cy', hww, c0, c3, c0', c3', hp, hf, hv, x_Nit, ix2, hu, flat, hpp, ipn]
          have e : onD [(hs.map PyData.int).set p (.int u), ms.map PyData.int] = .list [dLI (hs.set p u), dLI ms] := by rw [onn, ← List.map_set]; rfl
          rw [e]
        · obtain ⟨p, hpp, hp2⟩ := mod_nat (c := c / 8) (m := (m : Int) + 1) (by omega)
          have ipn := ixN_of (n := m + 1) (i := p) (by omega)
          refine ⟨hs, ms.set p u, ?_, not_wts ((bad_one hw p u hub).2 (by omega)), by omega, by simp; omega⟩
          simp [R__law_bad_weights, F__law_bad_weights, hx, hy, ml, m0, p1, x_Nn, onk, rowsD2, cy, cy', hww, c0, c3, c0', c3', hp, hf, hv, x_Nit, ix2, hu, flat, hpp, ipn]
          have e : onD [hs.map PyData.int, (ms.map PyData.int).set p (.int u)] = .list [dLI hs, dLI (ms.set p u)] := by rw [onn, ← List.map_set]; rfl
          rw [e]
end Sk

namespace Sk
open PySem PySem.Spec PyProof.Rows L2
/-! ### spoiled trees -/
theorem lit_a : (PyData.str "a") = dS [97] := by unfold dS; congr 1
theorem lit_aa : (PyData.str "aa") = dS [97, 97] := by unfold dS; congr 1
theorem r_bad_tree (n : Nat) {ks : List Wd} {t : Tr} (hk : Keys ks) (hr : rowT t = ks) (h1 : 1 ≤ ks.length) (naa : [97, 97] ∉ ks) (hn : 20 ≤ n) (c : Int) :
    ∃ t', R__law_bad_tree (n + 1) [dT t, .int c, dLS ks] = .ok (dT t') ∧ rowT t' ≠ ks ∧ sizeT t' ≤ 13 ∧ okT t' := by
  obtain ⟨m, hm⟩ : ∃ m, ks.length = m := ⟨_, rfl⟩
  have h12 := hk.len
  rw [hm] at h1 h12
  have sz : sizeT t = m := by rw [← row_len, hr, hm]
  have hh := hgt_size t
  have ok : okT t := fun w hw => hk.oks w (by rw [← hr]; exact hw)
  obtain ⟨y, hy, hy2⟩ := mod_nat (c := c / 3) (m := 3) (by decide)
  obtain ⟨x, hx, hx2⟩ := mod_nat (c := c) (m := 3) (by decide)
  obtain ⟨z, hz, hz2⟩ := mod_nat (c := c / 9) (m := 2) (by decide)
  have st : ∀ ds, R__law_bad_tree (n + 1) ds = fnOf 5 3 .e (F__law_bad_tree (R__law_mirrored n) (R__law_tree n)) ds := fun _ => rfl
  rw [st]
  cases t with
  | nil => simp [sizeT] at sz; omega
  | node k l r =>
    have rs := row_split k l r
    rw [hr] at rs
    have lens : (rowT l).length + 1 + (rowT r).length = m := by rw [← hm, rs]; simp; omega
    have lsz := row_len l
    have rsz := row_len r
    have rest : ∃ t', (∀ a, (y = 1 → m = 1) → (y = 2 → m = 1) → a = F__law_bad_tree (R__law_mirrored n) (R__law_tree n) → fnOf 5 3 .e a [dT (.node k l r), .int c, dLS ks] = .ok (dT t')) ∧ rowT t' ≠ ks ∧ sizeT t' ≤ 13 ∧ okT t' := by
      have gt : m = 1 ∨ ¬ m = 1 := by omega
      have fin : ∀ t' : Tr, (∀ b1 b2 : Bool, True) → True := fun _ _ => trivial
      by_cases x0 : x = 0
      · subst x0
        refine ⟨.node [97] .nil (.node k l r), ?_, ?_, by simp only [sizeT] at sz ⊢; omega, ?_⟩
        · rintro a q1 q2 rfl
          by_cases y1 : y = 1
          · subst y1
            have m1 := q1 rfl
            simp [F__law_bad_tree, hm, hy, hx, m1, lit_a]
          · by_cases y2 : y = 2
            · subst y2
              have m1 := q2 rfl
              simp [F__law_bad_tree, hm, hy, hx, m1, lit_a]
            · have y1' : ¬ (y : Int) = 1 := by omega
              have y2' : ¬ (y : Int) = 2 := by omega
              simp [F__law_bad_tree, hm, hy, hx, y1, y2, y1', y2', lit_a]
        · intro e
          have := congrArg List.length e
          rw [row_len] at this
          simp only [sizeT] at this sz
          omega
        · intro w hw
          rw [row_split] at hw
          simp only [List.mem_append, List.mem_cons] at hw
          rcases hw with hw | rfl | hw
          · simp [rowT] at hw
          · intro c hc; simp at hc; omega
          · exact ok w hw
      · by_cases x1 : x = 1
        · subst x1
          have z01 : z = 0 ∨ z = 1 := by omega
          have goal : ∀ t', (atI [dS k, dT l, dT r] (1 + (z : Int)) = some (dT t')) → rowT t' ≠ ks → sizeT t' ≤ 13 → okT t' → ∃ t', (∀ a, (y = 1 → m = 1) → (y = 2 → m = 1) → a = F__law_bad_tree (R__law_mirrored n) (R__law_tree n) → fnOf 5 3 .e a [dT (.node k l r), .int c, dLS ks] = .ok (dT t')) ∧ rowT t' ≠ ks ∧ sizeT t' ≤ 13 ∧ okT t' := by
            intro t' ha g1 g2 g3
            refine ⟨t', ?_, g1, g2, g3⟩
            rintro a q1 q2 rfl
            by_cases y1 : y = 1
            · subst y1
              have m1 := q1 rfl
              simp [F__law_bad_tree, hm, hy, hx, m1, hz, ha]
            · by_cases y2 : y = 2
              · subst y2
                have m1 := q2 rfl
                simp [F__law_bad_tree, hm, hy, hx, m1, hz, ha]
              · have y1' : ¬ (y : Int) = 1 := by omega
                have y2' : ¬ (y : Int) = 2 := by omega
                simp [F__law_bad_tree, hm, hy, hx, y1, y2, y1', y2', hz, ha]
          rcases z01 with rfl | rfl
          · exact goal l rfl (fun e => by have := congrArg List.length e; omega) (by omega) fun w hw => ok w (by rw [row_split]; simp [hw])
          · exact goal r rfl (fun e => by have := congrArg List.length e; omega) (by omega) fun w hw => ok w (by rw [row_split]; simp [hw])
        · have x2 : x = 2 := by omega
          subst x2
          refine ⟨.node [97, 97] l r, ?_, ?_, by simp only [sizeT] at sz ⊢; omega, ?_⟩
          · rintro a q1 q2 rfl
            by_cases y1 : y = 1
            · subst y1
              have m1 := q1 rfl
              simp [F__law_bad_tree, hm, hy, hx, m1, lit_aa]
            · by_cases y2 : y = 2
              · subst y2
                have m1 := q2 rfl
                simp [F__law_bad_tree, hm, hy, hx, m1, lit_aa]
              · have y1' : ¬ (y : Int) = 1 := by omega
                have y2' : ¬ (y : Int) = 2 := by omega
                simp [F__law_bad_tree, hm, hy, hx, y1, y2, y1', y2', lit_aa]
          · intro e
            apply naa
            rw [← e, row_split]; simp
          · intro w hw
            rw [row_split] at hw
            simp only [List.mem_append, List.mem_cons] at hw
            rcases hw with hw | rfl | hw
            · exact ok w (by rw [row_split]; simp [hw])
            · intro c hc; simp at hc; omega
            · exact ok w (by rw [row_split]; simp [hw])
    by_cases c1 : y = 1 ∧ 1 < m
    · obtain ⟨rfl, c1⟩ := c1
      have c1' : (1 : Int) < m := by omega
      have e := r_mir (.node k l r) n (by omega)
      refine ⟨mirT (.node k l r), ?_, ?_, by rw [mir_size]; omega, ?_⟩
      · simp only [dT_node] at e
        simp [F__law_bad_tree, hm, hy, c1, c1', e]
      · rw [mir_row, hr]
        intro e
        exact bad_rev hk (by omega) (by rw [e]; exact hk)
      · intro w hw
        rw [mir_row] at hw
        exact ok w (by simpa using hw)
    · by_cases c2 : y = 2 ∧ 1 < m
      · obtain ⟨rfl, c2⟩ := c2
        have c2' : (1 : Int) < m := by omega
        obtain ⟨p, hp, hp2⟩ := mod_nat (c := c / 9) (m := (m : Int) - 1) (by omega)
        have pl : p + 1 < ks.length := by omega
        have a1 : atI ks ((p : Int) + 1) = some ks[p + 1] := by rw [atI_nat (by omega), show ((p : Int) + 1).toNat = p + 1 by omega, List.getElem?_eq_getElem pl]
        have a2 : atI ks (p : Int) = some ks[p] := by rw [atI_nat (by omega), Int.toNat_natCast, List.getElem?_eq_getElem (by omega)]
        have t1 := cut_take ks (p : Int) (by omega)
        have t2 := cut_drop ks ((p : Int) + 2) (by omega)
        rw [Int.toNat_natCast] at t1
        rw [show ((p : Int) + 2).toNat = p + 2 by omega] at t2
        obtain ⟨ot, hot⟩ : ∃ ot, ot = ks.take p ++ [ks[p + 1], ks[p]] ++ ks.drop (p + 2) := ⟨_, rfl⟩
        have otl : ot.length = m := by rw [hot]; simp; omega
        have otm : ∀ w ∈ ot, w ∈ ks := fun w h => by
          rw [hot] at h
          simp only [List.mem_append, List.mem_cons, List.not_mem_nil, or_false] at h
          rcases h with (h | h | h) | h
          · exact List.mem_of_mem_take h
          · subst h; exact List.getElem_mem _
          · subst h; exact List.getElem_mem _
          · exact List.mem_of_mem_drop h
        obtain ⟨t', e1, e2⟩ := r_tree m n ot c 0 (by omega) (by omega)
        rw [List.drop_zero, List.take_of_length_le (by omega)] at e2
        refine ⟨t', ?_, ?_, by rw [← row_len, e2]; omega, fun w hw => hk.oks w (otm w (by rw [← e2]; exact hw))⟩
        · have m0 : (0 : Int) < (m : Int) - 1 := by omega
          have l2 : min p m + 2 + (m - (p + 2)) ≤ 100000 := by omega
          have l3 : min p m ≤ 99998 := by omega
          have e9 : PyData.list [dS ks[p + 1], dS ks[p]] = dLS [ks[p + 1], ks[p]] := rfl
          have e8 : dLS (ks.take p ++ ks[p + 1] :: ks[p] :: ks.drop (p + 2)) = dLS ot := by simp [hot]
          simp at e1
          simp [F__law_bad_tree, hm, hy, c2, c2', hp, m0, a1, a2, t1, t2, l2, l3, e9, e8, otl, e1]
        · rw [e2, hot]
          intro e
          exact bad_swap hk pl (ks.take p) (ks.drop (p + 2)) (by rw [e]; exact hk.srt)
      · obtain ⟨t', g1, g2⟩ := rest
        exact ⟨t', g1 _ (fun e => by have : ¬ 1 < m := fun z => c1 ⟨e, z⟩; omega) (fun e => by have : ¬ 1 < m := fun z => c2 ⟨e, z⟩; omega) rfl, g2⟩
end Sk

namespace Sk
open PySem PySem.Spec PyProof.Rows L2
/-! ### the functions: what goes first -/
theorem f_nokeys (n : Nat) {ks : List Wd} (hb : keysB ks = false) (h1 : ks.length ≤ 1000) (h2 : ∀ w ∈ ks, w.length ≤ 100000) (hs ms : List Int) (h3 : hs.length ≤ 1000) (h4 : ms.length ≤ 1000) (a b : D) :
    R_worths (n + 5) [dLS ks, dLI hs, dLI ms] = .exc "NoKeys" ∧ R_roots (n + 5) [dLS ks, dLI hs, dLI ms] = .exc "NoKeys" ∧ R_least (n + 5) [dLS ks, dLI hs, dLI ms] = .exc "NoKeys" ∧ R_best (n + 5) [dLS ks, dLI hs, dLI ms] = .exc "NoKeys" ∧
    R_cost (n + 5) [dLS ks, dLI hs, dLI ms, a] = .exc "NoKeys" ∧ R_even (n + 5) [dLS ks] = .exc "NoKeys" ∧ R_seek (n + 5) [dLS ks, a, b] = .exc "NoKeys" ∧ R_most_steps (n + 5) [dLS ks, a] = .exc "NoKeys" ∧ R_shown (n + 5) [dLS ks, a] = .exc "NoKeys" ∧
    R_turned (n + 5) [dLS ks, a, b] = .exc "NoKeys" ∧ R_turns (n + 5) [dLS ks, a, b] = .exc "NoKeys" := by
  have e1 := r_ask_keys (n + 1) ks (by omega) h2
  have e2 := r_ask_weights n ks hs ms h1 h2 h3 h4
  rw [hb] at e1 e2
  simp only [Bool.false_eq_true, if_false] at e1 e2
  refine ⟨?_, ?_, ?_, ?_, ?_, ?_, ?_, ?_, ?_, ?_, ?_⟩
  · simp [R_worths, F_worths, e2]
  · simp [R_roots, F_roots, e2]
  · simp [R_least, F_least, e2]
  · simp [R_best, F_best, e2]
  · simp [R_cost, F_cost, e2]
  · simp [R_even, F_even, e1]
  · simp [R_seek, F_seek, e1]
  · simp [R_most_steps, F_most_steps, e1]
  · simp [R_shown, F_shown, e1]
  · simp [R_turned, F_turned, e1]
  · simp [R_turns, F_turns, e1]
theorem f_noweights (n : Nat) {ks : List Wd} (hk : Keys ks) {hs ms : List Int} (hb : wtsB ks.length hs ms = false) (h3 : hs.length ≤ 1000) (h4 : ms.length ≤ 1000) (a : D) :
    R_worths (n + 5) [dLS ks, dLI hs, dLI ms] = .exc "NoWeights" ∧ R_roots (n + 5) [dLS ks, dLI hs, dLI ms] = .exc "NoWeights" ∧ R_least (n + 5) [dLS ks, dLI hs, dLI ms] = .exc "NoWeights" ∧ R_best (n + 5) [dLS ks, dLI hs, dLI ms] = .exc "NoWeights" ∧
    R_cost (n + 5) [dLS ks, dLI hs, dLI ms, a] = .exc "NoWeights" := by
  have e2 := r_ask_weights n ks hs ms (by have := hk.len; omega) (fun w h => by have := (hk.word w h).2.1; omega) h3 h4
  rw [(keysB_iff ks).mpr hk, hb] at e2
  simp only [if_true, Bool.false_eq_true, if_false] at e2
  refine ⟨?_, ?_, ?_, ?_, ?_⟩
  · simp [R_worths, F_worths, e2]
  · simp [R_roots, F_roots, e2]
  · simp [R_least, F_least, e2]
  · simp [R_best, F_best, e2]
  · simp [R_cost, F_cost, e2]
theorem f_notree (n : Nat) {ks : List Wd} (hk : Keys ks) {t : Tr} (ht : rowT t ≠ ks) (hz : sizeT t ≤ 13) (ho : okT t) (g b : D) (hg : R_ask_tree (n + 24) [dLS ks, g] = .ok .none) :
    R_seek (n + 25) [dLS ks, dT t, b] = .exc "NoTree" ∧ R_most_steps (n + 25) [dLS ks, dT t] = .exc "NoTree" ∧ R_shown (n + 25) [dLS ks, dT t] = .exc "NoTree" ∧ R_turned (n + 25) [dLS ks, dT t, b] = .exc "NoTree" ∧
    R_turns (n + 25) [dLS ks, dT t, g] = .exc "NoTree" ∧ R_turns (n + 25) [dLS ks, g, dT t] = .exc "NoTree" ∧ ∀ hs ms, Wts ks.length hs ms → R_cost (n + 25) [dLS ks, dLI hs, dLI ms, dT t] = .exc "NoTree" := by
  have e1 := ask_keys_ok (n + 21) hk
  have hh := hgt_size t
  have e2 := r_ask_tree (n + 24) ks t (by omega) (by omega) hk.oks ho
  rw [if_neg ht] at e2
  refine ⟨?_, ?_, ?_, ?_, ?_, ?_, fun hs ms hw => ?_⟩
  · simp [R_seek, F_seek, e1, e2]
  · simp [R_most_steps, F_most_steps, e1, e2]
  · simp [R_shown, F_shown, e1, e2]
  · simp [R_turned, F_turned, e1, e2]
  · simp [R_turns, F_turns, e1, e2]
  · simp [R_turns, F_turns, e1, hg, e2]
  · have e3 := ask_weights_ok (n + 20) hk hw
    simp [R_cost, F_cost, e3, e2]
theorem f_nokey (n : Nat) {ks : List Wd} (hk : Keys ks) {t : Tr} (hr : rowT t = ks) (hh : hgt t ≤ 12) {w : Wd} (hw : w ∉ ks) : R_turned (n + 15) [dLS ks, dT t, dS w] = .exc "NoKey" := by
  have e1 := ask_keys_ok (n + 11) hk
  have e2 := ask_tree_ok (n + 14) hk hr (by omega)
  simp [R_turned, F_turned, e1, e2, hw]
/-! ### the two parts of a word -/
theorem lit_qq : (PyData.str "qq") = dS [113, 113] := by unfold dS; congr 1
theorem lit_b1 : (PyData.str "b") = dS [98] := by unfold dS; congr 1
theorem word_exc1 (n : Nat) {i : Int} {ks rows t g : D} {x nm : String} (h : R__law_first n [.int i, ks, rows, t] = .exc x) (hx : (x = "NoKeys" ∧ nm = "keys") ∨ (x = "NoWeights" ∧ nm = "weights") ∨ (x = "NoTree" ∧ nm = "tree")) :
    R__law_word (n + 1) [.int i, ks, rows, t, g] = .ok (.str nm) := by
  have st : ∀ ds, R__law_word (n + 1) ds = fnOf 8 5 .e (F__law_word (R__law_first n) (R__law_second n)) ds := fun _ => rfl
  rw [st]
  simp only [F__law_word, x_fn, x_Sq, x_As, x_Try, x_uC, x_A, x_aC]
  rcases hx with ⟨rfl, rfl⟩ | ⟨rfl, rfl⟩ | ⟨rfl, rfl⟩ <;> · simp [-x_hc, -x_lk1, h]; rfl
theorem word_exc2 (n : Nat) {i : Int} {ks rows t g : D} {x nm : String} (h0 : R__law_first n [.int i, ks, rows, t] = .ok .none) (h : R__law_second n [.int i, ks, t, g] = .exc x)
    (hx : (x = "NoKeys" ∧ nm = "keys") ∨ (x = "NoTree" ∧ nm = "tree") ∨ (x = "NoKey" ∧ nm = "other")) : R__law_word (n + 1) [.int i, ks, rows, t, g] = .ok (.str nm) := by
  have st : ∀ ds, R__law_word (n + 1) ds = fnOf 8 5 .e (F__law_word (R__law_first n) (R__law_second n)) ds := fun _ => rfl
  rw [st]
  simp only [F__law_word, x_fn, x_Sq, x_As, x_Try, x_uC, x_A, x_aC]
  rcases hx with ⟨rfl, rfl⟩ | ⟨rfl, rfl⟩ | ⟨rfl, rfl⟩ <;> · simp [-x_hc, -x_lk1, h0, h]; rfl
theorem word_done (n : Nat) {i : Int} {ks rows t g : D} (h0 : R__law_first n [.int i, ks, rows, t] = .ok .none) (h : R__law_second n [.int i, ks, t, g] = .ok .none) : R__law_word (n + 1) [.int i, ks, rows, t, g] = .ok (.str "done") := by
  simp [R__law_word, F__law_word, h0, h]
theorem fst0x (n : Nat) {K T : D} {hs ms : List Int} {x : String} (h : R_worths n [K, dLI hs, dLI ms] = .exc x) : R__law_first (n + 1) [.int 0, K, .list [dLI hs, dLI ms], T] = .exc x := by
  simp [R__law_first, F__law_first, h]
theorem fst0o (n : Nat) {K T : D} {hs ms : List Int} {l : List (List Int)} (h : R_worths n [K, dLI hs, dLI ms] = .ok (.list (l.map dLI))) : R__law_first (n + 1) [.int 0, K, .list [dLI hs, dLI ms], T] = .ok .none := by
  simp [R__law_first, F__law_first, h, onB_rows]
theorem fst1x (n : Nat) {K T : D} {hs ms : List Int} {x : String} (h : R_roots n [K, dLI hs, dLI ms] = .exc x) : R__law_first (n + 1) [.int 1, K, .list [dLI hs, dLI ms], T] = .exc x := by
  simp [R__law_first, F__law_first, h]
theorem fst1o (n : Nat) {K T : D} {hs ms : List Int} {l : List (List Int)} (h : R_roots n [K, dLI hs, dLI ms] = .ok (.list (l.map dLI))) : R__law_first (n + 1) [.int 1, K, .list [dLI hs, dLI ms], T] = .ok .none := by
  simp [R__law_first, F__law_first, h, onB_rows]
theorem fst2x (n : Nat) {K T : D} {hs ms : List Int} {x : String} (h : R_least n [K, dLI hs, dLI ms] = .exc x) : R__law_first (n + 1) [.int 2, K, .list [dLI hs, dLI ms], T] = .exc x := by
  simp [R__law_first, F__law_first, h]
theorem fst2o (n : Nat) {K T : D} {hs ms : List Int} {d : D} (h : R_least n [K, dLI hs, dLI ms] = .ok d) : R__law_first (n + 1) [.int 2, K, .list [dLI hs, dLI ms], T] = .ok .none := by
  simp [R__law_first, F__law_first, h]
theorem fst3x (n : Nat) {K T : D} {hs ms : List Int} {x : String} (h : R_best n [K, dLI hs, dLI ms] = .exc x) : R__law_first (n + 1) [.int 3, K, .list [dLI hs, dLI ms], T] = .exc x := by
  simp [R__law_first, F__law_first, h]
theorem fst3o (n : Nat) {K T : D} {hs ms : List Int} {d : D} (h : R_best n [K, dLI hs, dLI ms] = .ok d) : R__law_first (n + 1) [.int 3, K, .list [dLI hs, dLI ms], T] = .ok .none := by
  simp [R__law_first, F__law_first, h]
theorem fst4x (n : Nat) {K T : D} {hs ms : List Int} {x : String} (h : R_cost n [K, dLI hs, dLI ms, T] = .exc x) : R__law_first (n + 1) [.int 4, K, .list [dLI hs, dLI ms], T] = .exc x := by
  simp [R__law_first, F__law_first, h]
theorem fst4o (n : Nat) {K T : D} {hs ms : List Int} {d : D} (h : R_cost n [K, dLI hs, dLI ms, T] = .ok d) : R__law_first (n + 1) [.int 4, K, .list [dLI hs, dLI ms], T] = .ok .none := by
  simp [R__law_first, F__law_first, h]
theorem fst5x (n : Nat) {K T : D} {hs ms : List Int} {x : String} (h : R_even n [K] = .exc x) : R__law_first (n + 1) [.int 5, K, .list [dLI hs, dLI ms], T] = .exc x := by
  simp [R__law_first, F__law_first, h]
theorem fst5o (n : Nat) {K T : D} {hs ms : List Int} {d : D} (h : R_even n [K] = .ok d) : R__law_first (n + 1) [.int 5, K, .list [dLI hs, dLI ms], T] = .ok .none := by
  simp [R__law_first, F__law_first, h]
theorem snd6x (n : Nat) {K T G : D} {x : String} (h : R_seek n [K, T, dS [98]] = .exc x) : R__law_second (n + 1) [.int 6, K, T, G] = .exc x := by
  simp [R__law_second, F__law_second, lit_b1, lit_qq, h]
theorem snd6o (n : Nat) {K T G : D} {d : D} (h : R_seek n [K, T, dS [98]] = .ok d) : R__law_second (n + 1) [.int 6, K, T, G] = .ok .none := by
  simp [R__law_second, F__law_second, lit_b1, lit_qq, h]
theorem snd7x (n : Nat) {K T G : D} {x : String} (h : R_most_steps n [K, T] = .exc x) : R__law_second (n + 1) [.int 7, K, T, G] = .exc x := by
  simp [R__law_second, F__law_second, lit_b1, lit_qq, h]
theorem snd7o (n : Nat) {K T G : D} {d : D} (h : R_most_steps n [K, T] = .ok d) : R__law_second (n + 1) [.int 7, K, T, G] = .ok .none := by
  simp [R__law_second, F__law_second, lit_b1, lit_qq, h]
theorem snd8x (n : Nat) {K T G : D} {x : String} (h : R_shown n [K, T] = .exc x) : R__law_second (n + 1) [.int 8, K, T, G] = .exc x := by
  simp [R__law_second, F__law_second, lit_b1, lit_qq, h]
theorem snd8o (n : Nat) {K T G : D} {d : D} (h : R_shown n [K, T] = .ok d) : R__law_second (n + 1) [.int 8, K, T, G] = .ok .none := by
  simp [R__law_second, F__law_second, lit_b1, lit_qq, h]
theorem snd9x (n : Nat) {K T G : D} {x : String} (h : R_turned n [K, T, dS [113, 113]] = .exc x) : R__law_second (n + 1) [.int 9, K, T, G] = .exc x := by
  simp [R__law_second, F__law_second, lit_b1, lit_qq, h]
theorem snd9o (n : Nat) {K T G : D} {d : D} (h : R_turned n [K, T, dS [113, 113]] = .ok d) : R__law_second (n + 1) [.int 9, K, T, G] = .ok .none := by
  simp [R__law_second, F__law_second, lit_b1, lit_qq, h]
theorem snd10x (n : Nat) {K T G : D} {x : String} (h : R_turns n [K, T, G] = .exc x) : R__law_second (n + 1) [.int 10, K, T, G] = .exc x := by
  simp [R__law_second, F__law_second, lit_b1, lit_qq, h]
theorem snd10o (n : Nat) {K T G : D} {d : D} (h : R_turns n [K, T, G] = .ok d) : R__law_second (n + 1) [.int 10, K, T, G] = .ok .none := by
  simp [R__law_second, F__law_second, lit_b1, lit_qq, h]
theorem snd11x (n : Nat) {K T G : D} {x : String} (h : R_turns n [K, G, T] = .exc x) : R__law_second (n + 1) [.int 11, K, T, G] = .exc x := by
  simp [R__law_second, F__law_second, lit_b1, lit_qq, h]
theorem snd11o (n : Nat) {K T G : D} {d : D} (h : R_turns n [K, G, T] = .ok d) : R__law_second (n + 1) [.int 11, K, T, G] = .ok .none := by
  simp [R__law_second, F__law_second, lit_b1, lit_qq, h]
theorem fst_no (n : Nat) {K T R : D} {i : Nat} (h : 6 ≤ i) : R__law_first (n + 1) [.int i, K, R, T] = .ok .none := by
  have h0 : ¬ i = 0 := by omega
  have h1 : ¬ (i : Int) = 1 := by omega
  have h2 : ¬ (i : Int) = 2 := by omega
  have h3 : ¬ (i : Int) = 3 := by omega
  have h4 : ¬ (i : Int) = 4 := by omega
  have h5 : ¬ (i : Int) = 5 := by omega
  have g1 : ¬ i = 1 := by omega
  have g2 : ¬ i = 2 := by omega
  have g3 : ¬ i = 3 := by omega
  have g4 : ¬ i = 4 := by omega
  have g5 : ¬ i = 5 := by omega
  simp [R__law_first, F__law_first, h0, h1, h2, h3, h4, h5, g1, g2, g3, g4, g5]
theorem snd_no (n : Nat) {K T G : D} {i : Nat} (h : i < 6) : R__law_second (n + 1) [.int i, K, T, G] = .ok .none := by
  have h0 : ¬ (i : Int) = 6 := by omega
  have h1 : ¬ (i : Int) = 7 := by omega
  have h2 : ¬ (i : Int) = 8 := by omega
  have h3 : ¬ (i : Int) = 9 := by omega
  have h4 : ¬ (i : Int) = 10 := by omega
  have h5 : ¬ (i : Int) = 11 := by omega
  have g0 : ¬ i = 6 := by omega
  have g1 : ¬ i = 7 := by omega
  have g2 : ¬ i = 8 := by omega
  have g3 : ¬ i = 9 := by omega
  have g4 : ¬ i = 10 := by omega
  have g5 : ¬ i = 11 := by omega
  simp [R__law_second, F__law_second, h0, h1, h2, h3, h4, h5, g0, g1, g2, g3, g4, g5]
def wantF (kb wb tb : Bool) (i : Nat) : String := if kb = true then "keys" else if i < 5 ∧ wb = true then "weights" else if (i = 4 ∨ 6 ≤ i) ∧ tb = true then "tree" else if i = 9 then "other" else "done"
theorem word_of (n : Nat) {ks ks' : List Wd} {hs ms : List Int} {t g : Tr} (hk : Keys ks) (hg : rowT g = ks) (nq : [113, 113] ∉ ks) (kb wb tb : Bool)
    (K : if kb = true then keysB ks' = false ∧ ks'.length ≤ 1000 ∧ ∀ w ∈ ks', w.length ≤ 100000 else ks' = ks) (h3 : hs.length ≤ 1000) (h4 : ms.length ≤ 1000)
    (W : if wb = true then wtsB ks.length hs ms = false else Wts ks.length hs ms) (T : if tb = true then rowT t ≠ ks ∧ sizeT t ≤ 13 ∧ okT t else t = g) (i : Nat) (hi : i < 12) :
    R__law_word (n + 45) [.int i, dLS ks', .list [dLI hs, dLI ms], dT t, dT g] = .ok (.str (wantF kb wb tb i)) := by
  have hi' : i = 0 ∨ i = 1 ∨ i = 2 ∨ i = 3 ∨ i = 4 ∨ i = 5 ∨ i = 6 ∨ i = 7 ∨ i = 8 ∨ i = 9 ∨ i = 10 ∨ i = 11 := by omega
  have hh : hgt g ≤ 12 := by have := hgt_size g; have := row_len g; rw [hg] at this; have := hk.len; omega
  have sz : (textT g).length ≤ 100000 := by
    have z := row_len g
    rw [hg] at z
    have b := text_bound g (fun w hw => by rw [hg] at hw; exact (hk.word w hw).2.1)
    have := hk.len
    omega
  cases kb with
  | true =>
    obtain ⟨k1, k2, k3⟩ := K
    obtain ⟨a0, a1, a2, a3, a4, a5, a6, a7, a8, a9, a10⟩ := f_nokeys (n + 38) k1 k2 k3 hs ms h3 h4 (dT t) (dS [98])
    obtain ⟨_, _, _, _, _, _, _, _, _, b9, _⟩ := f_nokeys (n + 38) k1 k2 k3 hs ms h3 h4 (dT t) (dS [113, 113])
    obtain ⟨_, _, _, _, _, _, _, _, _, _, b10⟩ := f_nokeys (n + 38) k1 k2 k3 hs ms h3 h4 (dT t) (dT g)
    obtain ⟨_, _, _, _, _, _, _, _, _, _, b11⟩ := f_nokeys (n + 38) k1 k2 k3 hs ms h3 h4 (dT g) (dT t)
    show _ = Rs.ok (PyData.str "keys")
    rcases hi' with rfl | rfl | rfl | rfl | rfl | rfl | rfl | rfl | rfl | rfl | rfl | rfl
    · exact word_exc1 _ (fst0x _ a0) (.inl ⟨rfl, rfl⟩)
    · exact word_exc1 _ (fst1x _ a1) (.inl ⟨rfl, rfl⟩)
    · exact word_exc1 _ (fst2x _ a2) (.inl ⟨rfl, rfl⟩)
    · exact word_exc1 _ (fst3x _ a3) (.inl ⟨rfl, rfl⟩)
    · exact word_exc1 _ (fst4x _ a4) (.inl ⟨rfl, rfl⟩)
    · exact word_exc1 _ (fst5x _ a5) (.inl ⟨rfl, rfl⟩)
    · exact word_exc2 _ (fst_no _ (by omega)) (snd6x _ a6) (.inl ⟨rfl, rfl⟩)
    · exact word_exc2 _ (fst_no _ (by omega)) (snd7x _ a7) (.inl ⟨rfl, rfl⟩)
    · exact word_exc2 _ (fst_no _ (by omega)) (snd8x _ a8) (.inl ⟨rfl, rfl⟩)
    · exact word_exc2 _ (fst_no _ (by omega)) (snd9x _ b9) (.inl ⟨rfl, rfl⟩)
    · exact word_exc2 _ (fst_no _ (by omega)) (snd10x _ b10) (.inl ⟨rfl, rfl⟩)
    · exact word_exc2 _ (fst_no _ (by omega)) (snd11x _ b11) (.inl ⟨rfl, rfl⟩)
  | false =>
    have K : ks' = ks := K
    subst K
    have gt := ask_tree_ok (n + 42) hk hg (by omega)
    obtain ⟨et, e5, _, _⟩ := r_even (n + 43) hk (by omega)
    have tt : (tb = true ∧ rowT t ≠ ks' ∧ sizeT t ≤ 13 ∧ okT t) ∨ (tb = false ∧ t = g) := by
      cases tb with
      | true => exact .inl ⟨rfl, T⟩
      | false => exact .inr ⟨rfl, T⟩
    have ww : (wb = true ∧ wtsB ks'.length hs ms = false) ∨ (wb = false ∧ Wts ks'.length hs ms) := by
      cases wb with
      | true => exact .inl ⟨rfl, W⟩
      | false => exact .inr ⟨rfl, W⟩
    clear T W
    rcases hi' with rfl | rfl | rfl | rfl | rfl | rfl | rfl | rfl | rfl | rfl | rfl | rfl
    · rcases ww with ⟨rfl, w⟩ | ⟨rfl, w⟩
      · obtain ⟨a0, a1, a2, a3, a4⟩ := f_noweights (n + 38) hk w h3 h4 (dT t)
        exact word_exc1 _ (fst0x _ a0) (.inr (.inl ⟨rfl, rfl⟩))
      · rw [show wantF false false tb 0 = "done" by cases tb <;> rfl]
        exact word_done _ (fst0o _ (r_worths' (n + 38) hk w)) (snd_no _ (by omega))
    · rcases ww with ⟨rfl, w⟩ | ⟨rfl, w⟩
      · obtain ⟨a0, a1, a2, a3, a4⟩ := f_noweights (n + 38) hk w h3 h4 (dT t)
        exact word_exc1 _ (fst1x _ a1) (.inr (.inl ⟨rfl, rfl⟩))
      · rw [show wantF false false tb 1 = "done" by cases tb <;> rfl]
        exact word_done _ (fst1o _ (r_roots' (n + 38) hk w)) (snd_no _ (by omega))
    · rcases ww with ⟨rfl, w⟩ | ⟨rfl, w⟩
      · obtain ⟨a0, a1, a2, a3, a4⟩ := f_noweights (n + 38) hk w h3 h4 (dT t)
        exact word_exc1 _ (fst2x _ a2) (.inr (.inl ⟨rfl, rfl⟩))
      · rw [show wantF false false tb 2 = "done" by cases tb <;> rfl]
        exact word_done _ (fst2o _ (r_least (n + 38) hk w)) (snd_no _ (by omega))
    · rcases ww with ⟨rfl, w⟩ | ⟨rfl, w⟩
      · obtain ⟨a0, a1, a2, a3, a4⟩ := f_noweights (n + 38) hk w h3 h4 (dT t)
        exact word_exc1 _ (fst3x _ a3) (.inr (.inl ⟨rfl, rfl⟩))
      · rw [show wantF false false tb 3 = "done" by cases tb <;> rfl]
        exact word_done _ (fst3o _ (r_best (n + 23) hk w)) (snd_no _ (by omega))
    · rcases ww with ⟨rfl, w⟩ | ⟨rfl, w⟩
      · obtain ⟨a0, a1, a2, a3, a4⟩ := f_noweights (n + 38) hk w h3 h4 (dT t)
        exact word_exc1 _ (fst4x _ a4) (.inr (.inl ⟨rfl, rfl⟩))
      · rcases tt with ⟨rfl, t1, t2, t3⟩ | ⟨rfl, rfl⟩
        · obtain ⟨_, _, _, _, _, _, c⟩ := f_notree (n + 18) hk t1 t2 t3 (dT g) (dS [98]) gt
          exact word_exc1 _ (fst4x _ (c hs ms w)) (.inr (.inr ⟨rfl, rfl⟩))
        · exact word_done _ (fst4o _ (r_cost (n + 43) hk w hg hh (by omega))) (snd_no _ (by omega))
    · rw [show wantF false wb tb 5 = "done" by cases tb <;> cases wb <;> rfl]
      exact word_done _ (fst5o _ e5) (snd_no _ (by omega))
    · rcases tt with ⟨rfl, t1, t2, t3⟩ | ⟨rfl, rfl⟩
      · obtain ⟨c, _⟩ := f_notree (n + 18) hk t1 t2 t3 (dT g) (dS [98]) gt
        rw [show wantF false wb true 6 = "tree" by cases wb <;> rfl]
        exact word_exc2 _ (fst_no _ (by omega)) (snd6x _ c) (.inr (.inl ⟨rfl, rfl⟩))
      · rw [show wantF false wb false 6 = "done" by cases wb <;> rfl]
        exact word_done _ (fst_no _ (by omega)) (snd6o _ (r_seek (n + 43) [98] hk hg hh (by omega)))
    · rcases tt with ⟨rfl, t1, t2, t3⟩ | ⟨rfl, rfl⟩
      · obtain ⟨_, c, _⟩ := f_notree (n + 18) hk t1 t2 t3 (dT g) (dS [98]) gt
        rw [show wantF false wb true 7 = "tree" by cases wb <;> rfl]
        exact word_exc2 _ (fst_no _ (by omega)) (snd7x _ c) (.inr (.inl ⟨rfl, rfl⟩))
      · rw [show wantF false wb false 7 = "done" by cases wb <;> rfl]
        exact word_done _ (fst_no _ (by omega)) (snd7o _ (r_most (n + 43) hk hg hh (by omega)))
    · rcases tt with ⟨rfl, t1, t2, t3⟩ | ⟨rfl, rfl⟩
      · obtain ⟨_, _, c, _⟩ := f_notree (n + 18) hk t1 t2 t3 (dT g) (dS [98]) gt
        rw [show wantF false wb true 8 = "tree" by cases wb <;> rfl]
        exact word_exc2 _ (fst_no _ (by omega)) (snd8x _ c) (.inr (.inl ⟨rfl, rfl⟩))
      · rw [show wantF false wb false 8 = "done" by cases wb <;> rfl]
        exact word_done _ (fst_no _ (by omega)) (snd8o _ (r_shown (n + 43) hk hg hh sz (by omega)))
    · rcases tt with ⟨rfl, t1, t2, t3⟩ | ⟨rfl, rfl⟩
      · obtain ⟨_, _, _, c, _⟩ := f_notree (n + 18) hk t1 t2 t3 (dT g) (dS [113, 113]) gt
        rw [show wantF false wb true 9 = "tree" by cases wb <;> rfl]
        exact word_exc2 _ (fst_no _ (by omega)) (snd9x _ c) (.inr (.inl ⟨rfl, rfl⟩))
      · rw [show wantF false wb false 9 = "other" by cases wb <;> rfl]
        exact word_exc2 _ (fst_no _ (by omega)) (snd9x _ (f_nokey (n + 28) hk hg hh nq)) (.inr (.inr ⟨rfl, rfl⟩))
    · rcases tt with ⟨rfl, t1, t2, t3⟩ | ⟨rfl, rfl⟩
      · obtain ⟨_, _, _, _, c, _⟩ := f_notree (n + 18) hk t1 t2 t3 (dT g) (dS [98]) gt
        rw [show wantF false wb true 10 = "tree" by cases wb <;> rfl]
        exact word_exc2 _ (fst_no _ (by omega)) (snd10x _ c) (.inr (.inl ⟨rfl, rfl⟩))
      · obtain ⟨_, c, _⟩ := r_turns (n + 43) hk hg hg (by omega)
        rw [show wantF false wb false 10 = "done" by cases wb <;> rfl]
        exact word_done _ (fst_no _ (by omega)) (snd10o _ c)
    · rcases tt with ⟨rfl, t1, t2, t3⟩ | ⟨rfl, rfl⟩
      · obtain ⟨_, _, _, _, _, c, _⟩ := f_notree (n + 18) hk t1 t2 t3 (dT g) (dS [98]) gt
        rw [show wantF false wb true 11 = "tree" by cases wb <;> rfl]
        exact word_exc2 _ (fst_no _ (by omega)) (snd11x _ c) (.inr (.inl ⟨rfl, rfl⟩))
      · obtain ⟨_, c, _⟩ := r_turns (n + 43) hk hg hg (by omega)
        rw [show wantF false wb false 11 = "done" by cases wb <;> rfl]
        exact word_done _ (fst_no _ (by omega)) (snd11o _ c)
/-! ### the law's loop -/
def d0 (b : Bool) : Str := if b = true then "keys" else "done"
def d1 (b : Bool) : Str := if b = true then "weights" else "done"
def d2 (b : Bool) : Str := if b = true then "tree" else "done"
theorem q_kd : opEq (.str "keys") (.str "done") = .ok (.bool false) := rfl
theorem q_wd : opEq (.str "weights") (.str "done") = .ok (.bool false) := rfl
theorem q_td : opEq (.str "tree") (.str "done") = .ok (.bool false) := rfl
theorem q_od : opEq (.str "other") (.str "done") = .ok (.bool false) := rfl
theorem q_dd : opEq (.str "done") (.str "done") = .ok (.bool true) := rfl
theorem q_ne (x : Str) : opNe (.str x) (.str x) = .ok (.bool false) := by simp [opNe]
def inT : D := .tuple [.int 4, .int 6, .int 7, .int 8, .int 9, .int 10, .int 11]
abbrev body17 (n : Nat) : SEnv → Rs Fl := B1_law_k17 (R__law_keys n) (R__law_tree n) (R__law_many n) (R__law_weights n) (R__law_cell_at n) (R__law_bad_tree n) (R__law_bad_weights n) (R__law_bad_keys n) (R__law_word n)
theorem step17 (n : Nat) (a b g t : D) (ks : List Wd) (hs ms : List Int) (kb wb tb : Bool) (i : Nat) (hi : i < 12) (s8 : Sl)
    (LW : R__law_word n [.int i, dLS ks, .list [dLI hs, dLI ms], t, g] = .ok (.str (wantF kb wb tb i))) :
    ∃ s8', body17 n [.sh a, .sh b, .sh (dLS ks), .sh (.list [dLI hs, dLI ms]), .sh g, .sh t, .ow (.list [.str (d0 kb), .str (d1 wb), .str (d2 tb)]), .sh (.int i), s8] =
      .ok (.nx [.sh a, .sh b, .sh (dLS ks), .sh (.list [dLI hs, dLI ms]), .sh g, .sh t, .ow (.list [.str (d0 kb), .str (d1 wb), .str (d2 tb)]), .sh (.int i), s8']) := by
  refine ⟨.sh (.str (wantF kb wb tb i)), ?_⟩
  have fl : ∀ x : Str, flat (.str x) = true := fun _ => rfl
  have hi' : i = 0 ∨ i = 1 ∨ i = 2 ∨ i = 3 ∨ i = 4 ∨ i = 5 ∨ i = 6 ∨ i = 7 ∨ i = 8 ∨ i = 9 ∨ i = 10 ∨ i = 11 := by omega
  have inq : ∃ q : Bool, opIn (.int i) (.tuple [.int 4, .int 6, .int 7, .int 8, .int 9, .int 10, .int 11]) = .ok (.bool q) ∧ q = decide (i = 4 ∨ 6 ≤ i) := by
    rcases hi' with rfl | rfl | rfl | rfl | rfl | rfl | rfl | rfl | rfl | rfl | rfl | rfl <;> exact ⟨_, rfl, rfl⟩
  obtain ⟨q, iq, qd⟩ := inq
  have i9 : ((i : Int) = 9) ↔ (i = 9) := by omega
  have i5 : ((i : Int) < 5) ↔ (i < 5) := by omega
  cases kb with
  | true =>
    have w : wantF true wb tb i = "keys" := rfl
    rw [w] at LW ⊢
    simp [x_B1_law_k17, body17, d0, d1, d2, fl, q_kd, LW, q_ne]
  | false =>
    by_cases c5 : i < 5
    · cases wb with
      | true =>
        have w : wantF false true tb i = "weights" := by simp [wantF, c5]
        rw [w] at LW ⊢
        simp [x_B1_law_k17, body17, d0, d1, d2, fl, q_dd, q_wd, i5, c5, LW, q_ne]
      | false =>
        cases q with
        | true =>
          have c4 : i = 4 ∨ 6 ≤ i := of_decide_eq_true qd.symm
          cases tb with
          | true =>
            have w : wantF false false true i = "tree" := by simp [wantF, c4]
            rw [w] at LW ⊢
            simp [x_B1_law_k17, body17, d0, d1, d2, fl, q_dd, q_td, i5, c5, LW, q_ne, iq]
          | false =>
            have n9 : ¬ i = 9 := by omega
            have w : wantF false false false i = "done" := by simp [wantF, n9]
            rw [w] at LW ⊢
            simp [x_B1_law_k17, body17, d0, d1, d2, fl, q_dd, q_td, i5, i9, n9, c5, LW, q_ne, iq]
        | false =>
          have c4 : ¬ (i = 4 ∨ 6 ≤ i) := of_decide_eq_false qd.symm
          have n9 : ¬ i = 9 := by omega
          have w : wantF false false tb i = "done" := by simp [wantF, n9, c4]
          rw [w] at LW ⊢
          simp [x_B1_law_k17, body17, d0, d1, d2, fl, q_dd, q_td, i5, i9, n9, c5, LW, q_ne, iq]
    · cases q with
      | true =>
        have c4 : i = 4 ∨ 6 ≤ i := of_decide_eq_true qd.symm
        cases tb with
        | true =>
          have w : wantF false wb true i = "tree" := by simp [wantF, c5, c4]
          rw [w] at LW ⊢
          simp [x_B1_law_k17, body17, d0, d1, d2, fl, q_dd, q_td, i5, c5, LW, q_ne, iq]
        | false =>
          by_cases n9 : i = 9
          · have w : wantF false wb false i = "other" := by simp [wantF, c5, n9]
            rw [w] at LW ⊢
            simp [x_B1_law_k17, body17, d0, d1, d2, fl, q_dd, q_td, i5, i9, n9, c5] at LW iq ⊢
            simp [iq, q_dd, LW, q_ne, n9, fl]
          · have w : wantF false wb false i = "done" := by simp [wantF, c5, n9]
            rw [w] at LW ⊢
            simp [x_B1_law_k17, body17, d0, d1, d2, fl, q_dd, q_td, i5, i9, n9, c5, LW, q_ne, iq]
      | false =>
        have c4 : ¬ (i = 4 ∨ 6 ≤ i) := of_decide_eq_false qd.symm
        have n9 : ¬ i = 9 := by omega
        have w : wantF false wb tb i = "done" := by simp [wantF, c5, n9, c4]
        rw [w] at LW ⊢
        simp [x_B1_law_k17, body17, d0, d1, d2, fl, q_dd, q_td, i5, i9, n9, c5, LW, q_ne, iq]
theorem keys_not (ns : List Int) (m : Int) (h0 : 0 ≤ m) (h : m ≤ 12) : [97, 97] ∉ keysF ns m ∧ [113, 113] ∉ keysF ns m := by
  have lc : ∀ k < 12, letC k ≠ 97 ∧ letC k ≠ 113 := by decide
  have key : ∀ w ∈ keysF ns m, w ≠ [97, 97] ∧ w ≠ [113, 113] := by
    intro w hw
    unfold keysF at hw
    split at hw
    · obtain ⟨k, _, rfl⟩ := List.mem_map.mp hw
      simp [cabs]
    · obtain ⟨k, hk, rfl⟩ := List.mem_map.mp hw
      rw [List.mem_range] at hk
      obtain ⟨l1, l2⟩ := lc k (by omega)
      have a4 : (cellAt ns 28 % 4).toNat = 0 ∨ (cellAt ns 28 % 4).toNat = 1 ∨ (cellAt ns 28 % 4).toNat = 2 ∨ (cellAt ns 28 % 4).toNat = 3 := by omega
      rcases a4 with e | e | e | e <;> rw [e] <;> simp [preW, l1, l2]
  exact ⟨fun z => (key _ z).1 rfl, fun z => (key _ z).2 rfl⟩
theorem rng12 : rng1 (.int 12) = .ok ((List.range 12).map fun k : Nat => PyData.int (k : Int)) := rfl
theorem pure_k17 (ns : List Int) (h : ns.length ≤ 63) : R_law_k17 60 [.list (ns.map .int)] = .ok (.bool true) := by
  have hm0 := many_rng (cellAt ns 0) 12 (by decide)
  obtain ⟨m, hm, m1, m12⟩ : ∃ m : Nat, (if manyF (cellAt ns 0) 12 > 1 then manyF (cellAt ns 0) 12 else 1) = (m : Int) ∧ 1 ≤ m ∧ m ≤ 12 := by
    split
    · exact ⟨(manyF (cellAt ns 0) 12).toNat, by omega, by omega, by omega⟩
    · exact ⟨1, rfl, by omega, by omega⟩
  obtain ⟨ks, hks⟩ : ∃ ks, keysF ns m = ks := ⟨_, rfl⟩
  have hk : Keys ks := by rw [← hks]; exact keys_ok ns m (by omega) (by omega)
  have hl : ks.length = m := by rw [← hks, keys_len]; omega
  have e0 : R__law_keys 59 [dLI ns, .int m] = .ok (dLS ks) := by rw [← hks]; exact r_keys 57 ns m (by omega) (by omega)
  obtain ⟨naa, nqq⟩ := keys_not ns m (by omega) (by omega)
  rw [hks] at naa nqq
  obtain ⟨hs, ms, w1, w2, hw⟩ := wts0 57 ns m m12
  obtain ⟨g, hg, hr, hz, hh⟩ := tree0 59 m hl (by omega) (cellAt ns 42)
  have hw' : Wts ks.length hs ms := by rw [hl]; exact hw
  have hl1 := hw.hl
  have ml1 := hw.ml
  obtain ⟨t', b1, b2, b3, b4⟩ := r_bad_tree 58 hk hr (by omega) naa (by omega) (cellAt ns 43 / 2)
  obtain ⟨hs', ms', c1, c2, c3, c4⟩ := r_bad_weights 58 hw m1 m12 (cellAt ns 44 / 3)
  obtain ⟨ks', k1, k2, k3, k4⟩ := r_bad_keys 58 hk (by omega) (cellAt ns 45 / 3)
  have go : ∀ (kb wb tb : Bool) (K : List Wd) (H M : List Int) (T : Tr), (if kb = true then keysB K = false ∧ K.length ≤ 1000 ∧ ∀ w ∈ K, w.length ≤ 100000 else K = ks) → H.length ≤ 1000 → M.length ≤ 1000 →
      (if wb = true then wtsB ks.length H M = false else Wts ks.length H M) → (if tb = true then rowT T ≠ ks ∧ sizeT T ≤ 13 ∧ okT T else T = g) →
      ∃ e, loopF (gS1 7) (body17 59) ((List.range 12).map fun k : Nat => PyData.int (k : Int)) [.sh (dLI ns), .sh (.int m), .sh (dLS K), .sh (.list [dLI H, dLI M]), .sh (dT g), .sh (dT T), .ow (.list [.str (d0 kb), .str (d1 wb), .str (d2 tb)]), .un, .un] = .ok (.nx e) := by
    intro kb wb tb K H M T a1 a2 a3 a4 a5
    obtain ⟨e, h1, _⟩ := loop_eq (asg := gS1 7) (body := body17 59) (fun k : Nat => PyData.int (k : Int)) (fun i env => ∃ s7 s8, env = [.sh (dLI ns), .sh (.int m), .sh (dLS K), .sh (.list [dLI H, dLI M]), .sh (dT g), .sh (dT T), .ow (.list [.str (d0 kb), .str (d1 wb), .str (d2 tb)]), s7, s8]) (List.range 12)
      [.sh (dLI ns), .sh (.int m), .sh (dLS K), .sh (.list [dLI H, dLI M]), .sh (dT g), .sh (dT T), .ow (.list [.str (d0 kb), .str (d1 wb), .str (d2 tb)]), .un, .un] ⟨_, _, rfl⟩ (by
      rintro i x env hx ⟨s7, s8, rfl⟩
      obtain ⟨rfl, hi⟩ := range_at hx
      have LW := word_of 14 hk hr nqq kb wb tb a1 a2 a3 a4 a5 x hi
      obtain ⟨s8', st⟩ := step17 59 (dLI ns) (.int m) (dT g) (dT T) K H M kb wb tb x hi s8 LW
      exact ⟨_, rfl, _, st, _, _, rfl⟩)
    exact ⟨e, h1⟩
  have mx : opMax [.int 1, .int (manyF (cellAt ns 0) 12)] = .ok (.int m) := by rw [o_max2, hm]
  have fl : ∀ x : Str, flat (.str x) = true := fun _ => rfl
  have i3 : ixN 3 0 = some 0 ∧ ixN 3 1 = some 1 ∧ ixN 3 2 = some 2 := ⟨rfl, rfl, rfl⟩
  show R_law_k17 60 [dLI ns] = _
  have st : ∀ ds, R_law_k17 60 ds = fnOf 9 1 .e (F_law_k17 (R__law_keys 59) (R__law_tree 59) (R__law_many 59) (R__law_weights 59) (R__law_cell_at 59) (R__law_bad_tree 59) (R__law_bad_weights 59) (R__law_bad_keys 59) (R__law_word 59)) ds := fun _ => rfl
  rw [st]
  by_cases q1 : cellAt ns 43 % 2 = 1 <;> by_cases q2 : cellAt ns 44 % 3 = 1 <;> by_cases q3 : cellAt ns 45 % 3 = 1
  · obtain ⟨e, l⟩ := go true true true ks' hs' ms' t' ⟨k2, k3, k4⟩ c3 c4 (by rw [hl]; exact c2) ⟨b2, b3, b4⟩
    simp only [body17, d0, d1, d2, if_true] at l
    simp [F_law_k17, r_cell, r_many, -o_max2, mx, e0, w1, w2, hg, q1, q2, q3, b1, c1, k1, fl, i3, rng12, l, -List.map_map]
  · obtain ⟨e, l⟩ := go false true true ks hs' ms' t' rfl c3 c4 (by rw [hl]; exact c2) ⟨b2, b3, b4⟩
    simp only [body17, d0, d1, d2, if_true, Bool.false_eq_true, if_false] at l
    simp [F_law_k17, r_cell, r_many, -o_max2, mx, e0, w1, w2, hg, q1, q2, q3, b1, c1, k1, fl, i3, rng12, l, -List.map_map]
  · obtain ⟨e, l⟩ := go true false true ks' hs ms t' ⟨k2, k3, k4⟩ (by omega) (by omega) hw' ⟨b2, b3, b4⟩
    simp only [body17, d0, d1, d2, if_true, Bool.false_eq_true, if_false] at l
    simp [F_law_k17, r_cell, r_many, -o_max2, mx, e0, w1, w2, hg, q1, q2, q3, b1, c1, k1, fl, i3, rng12, l, -List.map_map]
  · obtain ⟨e, l⟩ := go false false true ks hs ms t' rfl (by omega) (by omega) hw' ⟨b2, b3, b4⟩
    simp only [body17, d0, d1, d2, if_true, Bool.false_eq_true, if_false] at l
    simp [F_law_k17, r_cell, r_many, -o_max2, mx, e0, w1, w2, hg, q1, q2, q3, b1, c1, k1, fl, i3, rng12, l, -List.map_map]
  · obtain ⟨e, l⟩ := go true true false ks' hs' ms' g ⟨k2, k3, k4⟩ c3 c4 (by rw [hl]; exact c2) rfl
    simp only [body17, d0, d1, d2, if_true, Bool.false_eq_true, if_false] at l
    simp [F_law_k17, r_cell, r_many, -o_max2, mx, e0, w1, w2, hg, q1, q2, q3, b1, c1, k1, fl, i3, rng12, l, -List.map_map]
  · obtain ⟨e, l⟩ := go false true false ks hs' ms' g rfl c3 c4 (by rw [hl]; exact c2) rfl
    simp only [body17, d0, d1, d2, if_true, Bool.false_eq_true, if_false] at l
    simp [F_law_k17, r_cell, r_many, -o_max2, mx, e0, w1, w2, hg, q1, q2, q3, b1, c1, k1, fl, i3, rng12, l, -List.map_map]
  · obtain ⟨e, l⟩ := go true false false ks' hs ms g ⟨k2, k3, k4⟩ (by omega) (by omega) hw' rfl
    simp only [body17, d0, d1, d2, if_true, Bool.false_eq_true, if_false] at l
    simp [F_law_k17, r_cell, r_many, -o_max2, mx, e0, w1, w2, hg, q1, q2, q3, b1, c1, k1, fl, i3, rng12, l, -List.map_map]
  · obtain ⟨e, l⟩ := go false false false ks hs ms g rfl (by omega) (by omega) hw' rfl
    simp only [body17, d0, d1, d2, if_true, Bool.false_eq_true, if_false] at l
    simp [F_law_k17, r_cell, r_many, -o_max2, mx, e0, w1, w2, hg, q1, q2, q3, b1, c1, k1, fl, i3, rng12, l, -List.map_map]
end Sk

namespace Sk
namespace k17
open PySem PySem.Spec PyProof.Rows L2
theorem all_mk {l : PySem.W.OpenLaw} {w : World} {K : PySem.W.Frag} {h : Heap} {mg : Str → Option Value} {fa : Addr} (X : K.In h) (G : h.Ns mainGlobals mg) (hfa : mg "law" = some (.ref fa))
    {od0 an0 : Option Addr} {sl0 : Array (Option Value)} {oc0 kV0 dc0 pm0 cd0 ct0 : Value} {f0 : Addr}
    {od1 an1 : Option Addr} {sl1 : Array (Option Value)} {oc1 kV1 dc1 pm1 cd1 ct1 : Value} {f1 : Addr}
    {od2 an2 : Option Addr} {sl2 : Array (Option Value)} {oc2 kV2 dc2 pm2 cd2 ct2 : Value} {f2 : Addr}
    {od3 an3 : Option Addr} {sl3 : Array (Option Value)} {oc3 kV3 dc3 pm3 cd3 ct3 : Value} {f3 : Addr}
    {od4 an4 : Option Addr} {sl4 : Array (Option Value)} {oc4 kV4 dc4 pm4 cd4 ct4 : Value} {f4 : Addr}
    {od5 an5 : Option Addr} {sl5 : Array (Option Value)} {oc5 kV5 dc5 pm5 cd5 ct5 : Value} {f5 : Addr}
    {od6 an6 : Option Addr} {sl6 : Array (Option Value)} {oc6 kV6 dc6 pm6 cd6 ct6 : Value} {f6 : Addr}
    {od7 an7 : Option Addr} {sl7 : Array (Option Value)} {oc7 kV7 dc7 pm7 cd7 ct7 : Value} {f7 : Addr}
    {od8 an8 : Option Addr} {sl8 : Array (Option Value)} {oc8 kV8 dc8 pm8 cd8 ct8 : Value} {f8 : Addr}
    {od9 an9 : Option Addr} {sl9 : Array (Option Value)} {oc9 kV9 dc9 pm9 cd9 ct9 : Value} {f9 : Addr}
    {od10 an10 : Option Addr} {sl10 : Array (Option Value)} {oc10 kV10 dc10 pm10 cd10 ct10 : Value} {f10 : Addr}
    {od11 an11 : Option Addr} {sl11 : Array (Option Value)} {oc11 kV11 dc11 pm11 cd11 ct11 : Value} {f11 : Addr}
    {od12 an12 : Option Addr} {sl12 : Array (Option Value)} {oc12 kV12 dc12 pm12 cd12 ct12 : Value} {f12 : Addr}
    {od13 an13 : Option Addr} {sl13 : Array (Option Value)} {oc13 kV13 dc13 pm13 cd13 ct13 : Value} {f13 : Addr}
    {od14 an14 : Option Addr} {sl14 : Array (Option Value)} {oc14 kV14 dc14 pm14 cd14 ct14 : Value} {f14 : Addr}
    {od15 an15 : Option Addr} {sl15 : Array (Option Value)} {oc15 kV15 dc15 pm15 cd15 ct15 : Value} {f15 : Addr}
    {od16 an16 : Option Addr} {sl16 : Array (Option Value)} {oc16 kV16 dc16 pm16 cd16 ct16 : Value} {f16 : Addr}
    {od17 an17 : Option Addr} {sl17 : Array (Option Value)} {oc17 kV17 dc17 pm17 cd17 ct17 : Value} {f17 : Addr}
    {od18 an18 : Option Addr} {sl18 : Array (Option Value)} {oc18 kV18 dc18 pm18 cd18 ct18 : Value} {f18 : Addr}
    {od19 an19 : Option Addr} {sl19 : Array (Option Value)} {oc19 kV19 dc19 pm19 cd19 ct19 : Value} {f19 : Addr}
    {od20 an20 : Option Addr} {sl20 : Array (Option Value)} {oc20 kV20 dc20 pm20 cd20 ct20 : Value} {f20 : Addr}
    {od21 an21 : Option Addr} {sl21 : Array (Option Value)} {oc21 kV21 dc21 pm21 cd21 ct21 : Value} {f21 : Addr}
    {od22 an22 : Option Addr} {sl22 : Array (Option Value)} {oc22 kV22 dc22 pm22 cd22 ct22 : Value} {f22 : Addr}
    {od23 an23 : Option Addr} {sl23 : Array (Option Value)} {oc23 kV23 dc23 pm23 cd23 ct23 : Value} {f23 : Addr}
    {od24 an24 : Option Addr} {sl24 : Array (Option Value)} {oc24 kV24 dc24 pm24 cd24 ct24 : Value} {f24 : Addr}
    {od25 an25 : Option Addr} {sl25 : Array (Option Value)} {oc25 kV25 dc25 pm25 cd25 ct25 : Value} {f25 : Addr}
    {od26 an26 : Option Addr} {sl26 : Array (Option Value)} {oc26 kV26 dc26 pm26 cd26 ct26 : Value} {f26 : Addr}
    {od27 an27 : Option Addr} {sl27 : Array (Option Value)} {oc27 kV27 dc27 pm27 cd27 ct27 : Value} {f27 : Addr}
    {od28 an28 : Option Addr} {sl28 : Array (Option Value)} {oc28 kV28 dc28 pm28 cd28 ct28 : Value} {f28 : Addr}
    {od29 an29 : Option Addr} {sl29 : Array (Option Value)} {oc29 kV29 dc29 pm29 cd29 ct29 : Value} {f29 : Addr}
    {od30 an30 : Option Addr} {sl30 : Array (Option Value)} {oc30 kV30 dc30 pm30 cd30 ct30 : Value} {f30 : Addr}
    {od31 an31 : Option Addr} {sl31 : Array (Option Value)} {oc31 kV31 dc31 pm31 cd31 ct31 : Value} {f31 : Addr}
    {od32 an32 : Option Addr} {sl32 : Array (Option Value)} {oc32 kV32 dc32 pm32 cd32 ct32 : Value} {f32 : Addr}
    {od33 an33 : Option Addr} {sl33 : Array (Option Value)} {oc33 kV33 dc33 pm33 cd33 ct33 : Value} {f33 : Addr}
    {od34 an34 : Option Addr} {sl34 : Array (Option Value)} {oc34 kV34 dc34 pm34 cd34 ct34 : Value} {f34 : Addr}
    {od35 an35 : Option Addr} {sl35 : Array (Option Value)} {oc35 kV35 dc35 pm35 cd35 ct35 : Value} {f35 : Addr}
    {od36 an36 : Option Addr} {sl36 : Array (Option Value)} {oc36 kV36 dc36 pm36 cd36 ct36 : Value} {f36 : Addr}
    {od37 an37 : Option Addr} {sl37 : Array (Option Value)} {oc37 kV37 dc37 pm37 cd37 ct37 : Value} {f37 : Addr}
    {od38 an38 : Option Addr} {sl38 : Array (Option Value)} {oc38 kV38 dc38 pm38 cd38 ct38 : Value} {f38 : Addr}
    {od39 an39 : Option Addr} {sl39 : Array (Option Value)} {oc39 kV39 dc39 pm39 cd39 ct39 : Value} {f39 : Addr}
    {od40 an40 : Option Addr} {sl40 : Array (Option Value)} {oc40 kV40 dc40 pm40 cd40 ct40 : Value} {f40 : Addr}
    {od41 an41 : Option Addr} {sl41 : Array (Option Value)} {oc41 kV41 dc41 pm41 cd41 ct41 : Value} {f41 : Addr}
    {tk_LETTERS : Tok}
    {tk_MOST_KEYS : Tok}
    {tk_MOST_LETTERS : Tok}
    {tk_MOST_WEIGHT : Tok}
    {C_AtRoot : Addr}
    {C_NoKey : Addr}
    {C_NoKeys : Addr}
    {C_NoTree : Addr}
    {C_NoWeights : Addr}
    {C_SeekError : Addr}
    (a0 : PySem.W.nsIn K mainGlobals "row_of" = some (some (.ref f0)))
    (l0 : K.lookup f0 = some ⟨oc0, od0, .func (PySem.W.fnOf "row_of" "row_of" (defArgs st_row_of) (defBody st_row_of) (defScope st_row_of) .none kV0 dc0 pm0 an0 cd0 ct0), sl0⟩)
    (c0 : PySem.W.codeIn K cd0 "row_of" = true)
    (k0 : PySem.W.keepIn K (.ref f0) = true)
    (a1 : PySem.W.nsIn K mainGlobals "_law_cell_at" = some (some (.ref f1)))
    (l1 : K.lookup f1 = some ⟨oc1, od1, .func (PySem.W.fnOf "_law_cell_at" "_law_cell_at" (defArgs st__law_cell_at) (defBody st__law_cell_at) (defScope st__law_cell_at) .none kV1 dc1 pm1 an1 cd1 ct1), sl1⟩)
    (c1 : PySem.W.codeIn K cd1 "_law_cell_at" = true)
    (k1 : PySem.W.keepIn K (.ref f1) = true)
    (a2 : PySem.W.nsIn K mainGlobals "_law_mix" = some (some (.ref f2)))
    (l2 : K.lookup f2 = some ⟨oc2, od2, .func (PySem.W.fnOf "_law_mix" "_law_mix" (defArgs st__law_mix) (defBody st__law_mix) (defScope st__law_mix) .none kV2 dc2 pm2 an2 cd2 ct2), sl2⟩)
    (c2 : PySem.W.codeIn K cd2 "_law_mix" = true)
    (k2 : PySem.W.keepIn K (.ref f2) = true)
    (a3 : PySem.W.nsIn K mainGlobals "_law_many" = some (some (.ref f3)))
    (l3 : K.lookup f3 = some ⟨oc3, od3, .func (PySem.W.fnOf "_law_many" "_law_many" (defArgs st__law_many) (defBody st__law_many) (defScope st__law_many) .none kV3 dc3 pm3 an3 cd3 ct3), sl3⟩)
    (c3 : PySem.W.codeIn K cd3 "_law_many" = true)
    (k3 : PySem.W.keepIn K (.ref f3) = true)
    (a4 : PySem.W.nsIn K mainGlobals "_law_keys" = some (some (.ref f4)))
    (l4 : K.lookup f4 = some ⟨oc4, od4, .func (PySem.W.fnOf "_law_keys" "_law_keys" (defArgs st__law_keys) (defBody st__law_keys) (defScope st__law_keys) .none kV4 dc4 pm4 an4 cd4 ct4), sl4⟩)
    (c4 : PySem.W.codeIn K cd4 "_law_keys" = true)
    (k4 : PySem.W.keepIn K (.ref f4) = true)
    (a5 : PySem.W.nsIn K mainGlobals "_law_tree" = some (some (.ref f5)))
    (l5 : K.lookup f5 = some ⟨oc5, od5, .func (PySem.W.fnOf "_law_tree" "_law_tree" (defArgs st__law_tree) (defBody st__law_tree) (defScope st__law_tree) .none kV5 dc5 pm5 an5 cd5 ct5), sl5⟩)
    (c5 : PySem.W.codeIn K cd5 "_law_tree" = true)
    (k5 : PySem.W.keepIn K (.ref f5) = true)
    (a6 : PySem.W.nsIn K mainGlobals "_law_mirrored" = some (some (.ref f6)))
    (l6 : K.lookup f6 = some ⟨oc6, od6, .func (PySem.W.fnOf "_law_mirrored" "_law_mirrored" (defArgs st__law_mirrored) (defBody st__law_mirrored) (defScope st__law_mirrored) .none kV6 dc6 pm6 an6 cd6 ct6), sl6⟩)
    (c6 : PySem.W.codeIn K cd6 "_law_mirrored" = true)
    (k6 : PySem.W.keepIn K (.ref f6) = true)
    (a7 : PySem.W.nsIn K mainGlobals "is_word" = some (some (.ref f7)))
    (l7 : K.lookup f7 = some ⟨oc7, od7, .func (PySem.W.fnOf "is_word" "is_word" (defArgs st_is_word) (defBody st_is_word) (defScope st_is_word) .none kV7 dc7 pm7 an7 cd7 ct7), sl7⟩)
    (c7 : PySem.W.codeIn K cd7 "is_word" = true)
    (k7 : PySem.W.keepIn K (.ref f7) = true)
    (a8 : PySem.W.nsIn K mainGlobals "are_keys" = some (some (.ref f8)))
    (l8 : K.lookup f8 = some ⟨oc8, od8, .func (PySem.W.fnOf "are_keys" "are_keys" (defArgs st_are_keys) (defBody st_are_keys) (defScope st_are_keys) .none kV8 dc8 pm8 an8 cd8 ct8), sl8⟩)
    (c8 : PySem.W.codeIn K cd8 "are_keys" = true)
    (k8 : PySem.W.keepIn K (.ref f8) = true)
    (a9 : PySem.W.nsIn K mainGlobals "ask_keys" = some (some (.ref f9)))
    (l9 : K.lookup f9 = some ⟨oc9, od9, .func (PySem.W.fnOf "ask_keys" "ask_keys" (defArgs st_ask_keys) (defBody st_ask_keys) (defScope st_ask_keys) .none kV9 dc9 pm9 an9 cd9 ct9), sl9⟩)
    (c9 : PySem.W.codeIn K cd9 "ask_keys" = true)
    (k9 : PySem.W.keepIn K (.ref f9) = true)
    (a10 : PySem.W.nsIn K mainGlobals "ask_tree" = some (some (.ref f10)))
    (l10 : K.lookup f10 = some ⟨oc10, od10, .func (PySem.W.fnOf "ask_tree" "ask_tree" (defArgs st_ask_tree) (defBody st_ask_tree) (defScope st_ask_tree) .none kV10 dc10 pm10 an10 cd10 ct10), sl10⟩)
    (c10 : PySem.W.codeIn K cd10 "ask_tree" = true)
    (k10 : PySem.W.keepIn K (.ref f10) = true)
    (a11 : PySem.W.nsIn K mainGlobals "sought" = some (some (.ref f11)))
    (l11 : K.lookup f11 = some ⟨oc11, od11, .func (PySem.W.fnOf "sought" "sought" (defArgs st_sought) (defBody st_sought) (defScope st_sought) .none kV11 dc11 pm11 an11 cd11 ct11), sl11⟩)
    (c11 : PySem.W.codeIn K cd11 "sought" = true)
    (k11 : PySem.W.keepIn K (.ref f11) = true)
    (a12 : PySem.W.nsIn K mainGlobals "seek" = some (some (.ref f12)))
    (l12 : K.lookup f12 = some ⟨oc12, od12, .func (PySem.W.fnOf "seek" "seek" (defArgs st_seek) (defBody st_seek) (defScope st_seek) .none kV12 dc12 pm12 an12 cd12 ct12), sl12⟩)
    (c12 : PySem.W.codeIn K cd12 "seek" = true)
    (k12 : PySem.W.keepIn K (.ref f12) = true)
    (a13 : PySem.W.nsIn K mainGlobals "ask_weights" = some (some (.ref f13)))
    (l13 : K.lookup f13 = some ⟨oc13, od13, .func (PySem.W.fnOf "ask_weights" "ask_weights" (defArgs st_ask_weights) (defBody st_ask_weights) (defScope st_ask_weights) .none kV13 dc13 pm13 an13 cd13 ct13), sl13⟩)
    (c13 : PySem.W.codeIn K cd13 "ask_weights" = true)
    (k13 : PySem.W.keepIn K (.ref f13) = true)
    (a14 : PySem.W.nsIn K mainGlobals "cost_of" = some (some (.ref f14)))
    (l14 : K.lookup f14 = some ⟨oc14, od14, .func (PySem.W.fnOf "cost_of" "cost_of" (defArgs st_cost_of) (defBody st_cost_of) (defScope st_cost_of) .none kV14 dc14 pm14 an14 cd14 ct14), sl14⟩)
    (c14 : PySem.W.codeIn K cd14 "cost_of" = true)
    (k14 : PySem.W.keepIn K (.ref f14) = true)
    (a15 : PySem.W.nsIn K mainGlobals "cost" = some (some (.ref f15)))
    (l15 : K.lookup f15 = some ⟨oc15, od15, .func (PySem.W.fnOf "cost" "cost" (defArgs st_cost) (defBody st_cost) (defScope st_cost) .none kV15 dc15 pm15 an15 cd15 ct15), sl15⟩)
    (c15 : PySem.W.codeIn K cd15 "cost" = true)
    (k15 : PySem.W.keepIn K (.ref f15) = true)
    (a16 : PySem.W.nsIn K mainGlobals "_law_weights" = some (some (.ref f16)))
    (l16 : K.lookup f16 = some ⟨oc16, od16, .func (PySem.W.fnOf "_law_weights" "_law_weights" (defArgs st__law_weights) (defBody st__law_weights) (defScope st__law_weights) .none kV16 dc16 pm16 an16 cd16 ct16), sl16⟩)
    (c16 : PySem.W.codeIn K cd16 "_law_weights" = true)
    (k16 : PySem.W.keepIn K (.ref f16) = true)
    (a17 : PySem.W.nsIn K mainGlobals "tables" = some (some (.ref f17)))
    (l17 : K.lookup f17 = some ⟨oc17, od17, .func (PySem.W.fnOf "tables" "tables" (defArgs st_tables) (defBody st_tables) (defScope st_tables) .none kV17 dc17 pm17 an17 cd17 ct17), sl17⟩)
    (c17 : PySem.W.codeIn K cd17 "tables" = true)
    (k17 : PySem.W.keepIn K (.ref f17) = true)
    (a18 : PySem.W.nsIn K mainGlobals "worths" = some (some (.ref f18)))
    (l18 : K.lookup f18 = some ⟨oc18, od18, .func (PySem.W.fnOf "worths" "worths" (defArgs st_worths) (defBody st_worths) (defScope st_worths) .none kV18 dc18 pm18 an18 cd18 ct18), sl18⟩)
    (c18 : PySem.W.codeIn K cd18 "worths" = true)
    (k18 : PySem.W.keepIn K (.ref f18) = true)
    (a19 : PySem.W.nsIn K mainGlobals "least" = some (some (.ref f19)))
    (l19 : K.lookup f19 = some ⟨oc19, od19, .func (PySem.W.fnOf "least" "least" (defArgs st_least) (defBody st_least) (defScope st_least) .none kV19 dc19 pm19 an19 cd19 ct19), sl19⟩)
    (c19 : PySem.W.codeIn K cd19 "least" = true)
    (k19 : PySem.W.keepIn K (.ref f19) = true)
    (a20 : PySem.W.nsIn K mainGlobals "roots" = some (some (.ref f20)))
    (l20 : K.lookup f20 = some ⟨oc20, od20, .func (PySem.W.fnOf "roots" "roots" (defArgs st_roots) (defBody st_roots) (defScope st_roots) .none kV20 dc20 pm20 an20 cd20 ct20), sl20⟩)
    (c20 : PySem.W.codeIn K cd20 "roots" = true)
    (k20 : PySem.W.keepIn K (.ref f20) = true)
    (a21 : PySem.W.nsIn K mainGlobals "built" = some (some (.ref f21)))
    (l21 : K.lookup f21 = some ⟨oc21, od21, .func (PySem.W.fnOf "built" "built" (defArgs st_built) (defBody st_built) (defScope st_built) .none kV21 dc21 pm21 an21 cd21 ct21), sl21⟩)
    (c21 : PySem.W.codeIn K cd21 "built" = true)
    (k21 : PySem.W.keepIn K (.ref f21) = true)
    (a22 : PySem.W.nsIn K mainGlobals "best" = some (some (.ref f22)))
    (l22 : K.lookup f22 = some ⟨oc22, od22, .func (PySem.W.fnOf "best" "best" (defArgs st_best) (defBody st_best) (defScope st_best) .none kV22 dc22 pm22 an22 cd22 ct22), sl22⟩)
    (c22 : PySem.W.codeIn K cd22 "best" = true)
    (k22 : PySem.W.keepIn K (.ref f22) = true)
    (a23 : PySem.W.nsIn K mainGlobals "halved" = some (some (.ref f23)))
    (l23 : K.lookup f23 = some ⟨oc23, od23, .func (PySem.W.fnOf "halved" "halved" (defArgs st_halved) (defBody st_halved) (defScope st_halved) .none kV23 dc23 pm23 an23 cd23 ct23), sl23⟩)
    (c23 : PySem.W.codeIn K cd23 "halved" = true)
    (k23 : PySem.W.keepIn K (.ref f23) = true)
    (a24 : PySem.W.nsIn K mainGlobals "even" = some (some (.ref f24)))
    (l24 : K.lookup f24 = some ⟨oc24, od24, .func (PySem.W.fnOf "even" "even" (defArgs st_even) (defBody st_even) (defScope st_even) .none kV24 dc24 pm24 an24 cd24 ct24), sl24⟩)
    (c24 : PySem.W.codeIn K cd24 "even" = true)
    (k24 : PySem.W.keepIn K (.ref f24) = true)
    (a25 : PySem.W.nsIn K mainGlobals "height" = some (some (.ref f25)))
    (l25 : K.lookup f25 = some ⟨oc25, od25, .func (PySem.W.fnOf "height" "height" (defArgs st_height) (defBody st_height) (defScope st_height) .none kV25 dc25 pm25 an25 cd25 ct25), sl25⟩)
    (c25 : PySem.W.codeIn K cd25 "height" = true)
    (k25 : PySem.W.keepIn K (.ref f25) = true)
    (a26 : PySem.W.nsIn K mainGlobals "most_steps" = some (some (.ref f26)))
    (l26 : K.lookup f26 = some ⟨oc26, od26, .func (PySem.W.fnOf "most_steps" "most_steps" (defArgs st_most_steps) (defBody st_most_steps) (defScope st_most_steps) .none kV26 dc26 pm26 an26 cd26 ct26), sl26⟩)
    (c26 : PySem.W.codeIn K cd26 "most_steps" = true)
    (k26 : PySem.W.keepIn K (.ref f26) = true)
    (a27 : PySem.W.nsIn K mainGlobals "lifted_left" = some (some (.ref f27)))
    (l27 : K.lookup f27 = some ⟨oc27, od27, .func (PySem.W.fnOf "lifted_left" "lifted_left" (defArgs st_lifted_left) (defBody st_lifted_left) (defScope st_lifted_left) .none kV27 dc27 pm27 an27 cd27 ct27), sl27⟩)
    (c27 : PySem.W.codeIn K cd27 "lifted_left" = true)
    (k27 : PySem.W.keepIn K (.ref f27) = true)
    (a28 : PySem.W.nsIn K mainGlobals "lifted_right" = some (some (.ref f28)))
    (l28 : K.lookup f28 = some ⟨oc28, od28, .func (PySem.W.fnOf "lifted_right" "lifted_right" (defArgs st_lifted_right) (defBody st_lifted_right) (defScope st_lifted_right) .none kV28 dc28 pm28 an28 cd28 ct28), sl28⟩)
    (c28 : PySem.W.codeIn K cd28 "lifted_right" = true)
    (k28 : PySem.W.keepIn K (.ref f28) = true)
    (a29 : PySem.W.nsIn K mainGlobals "up" = some (some (.ref f29)))
    (l29 : K.lookup f29 = some ⟨oc29, od29, .func (PySem.W.fnOf "up" "up" (defArgs st_up) (defBody st_up) (defScope st_up) .none kV29 dc29 pm29 an29 cd29 ct29), sl29⟩)
    (c29 : PySem.W.codeIn K cd29 "up" = true)
    (k29 : PySem.W.keepIn K (.ref f29) = true)
    (a30 : PySem.W.nsIn K mainGlobals "turned" = some (some (.ref f30)))
    (l30 : K.lookup f30 = some ⟨oc30, od30, .func (PySem.W.fnOf "turned" "turned" (defArgs st_turned) (defBody st_turned) (defScope st_turned) .none kV30 dc30 pm30 an30 cd30 ct30), sl30⟩)
    (c30 : PySem.W.codeIn K cd30 "turned" = true)
    (k30 : PySem.W.keepIn K (.ref f30) = true)
    (a31 : PySem.W.nsIn K mainGlobals "ways" = some (some (.ref f31)))
    (l31 : K.lookup f31 = some ⟨oc31, od31, .func (PySem.W.fnOf "ways" "ways" (defArgs st_ways) (defBody st_ways) (defScope st_ways) .none kV31 dc31 pm31 an31 cd31 ct31), sl31⟩)
    (c31 : PySem.W.codeIn K cd31 "ways" = true)
    (k31 : PySem.W.keepIn K (.ref f31) = true)
    (a32 : PySem.W.nsIn K mainGlobals "turns" = some (some (.ref f32)))
    (l32 : K.lookup f32 = some ⟨oc32, od32, .func (PySem.W.fnOf "turns" "turns" (defArgs st_turns) (defBody st_turns) (defScope st_turns) .none kV32 dc32 pm32 an32 cd32 ct32), sl32⟩)
    (c32 : PySem.W.codeIn K cd32 "turns" = true)
    (k32 : PySem.W.keepIn K (.ref f32) = true)
    (a33 : PySem.W.nsIn K mainGlobals "written" = some (some (.ref f33)))
    (l33 : K.lookup f33 = some ⟨oc33, od33, .func (PySem.W.fnOf "written" "written" (defArgs st_written) (defBody st_written) (defScope st_written) .none kV33 dc33 pm33 an33 cd33 ct33), sl33⟩)
    (c33 : PySem.W.codeIn K cd33 "written" = true)
    (k33 : PySem.W.keepIn K (.ref f33) = true)
    (a34 : PySem.W.nsIn K mainGlobals "shown" = some (some (.ref f34)))
    (l34 : K.lookup f34 = some ⟨oc34, od34, .func (PySem.W.fnOf "shown" "shown" (defArgs st_shown) (defBody st_shown) (defScope st_shown) .none kV34 dc34 pm34 an34 cd34 ct34), sl34⟩)
    (c34 : PySem.W.codeIn K cd34 "shown" = true)
    (k34 : PySem.W.keepIn K (.ref f34) = true)
    (a35 : PySem.W.nsIn K mainGlobals "_law_bad_keys" = some (some (.ref f35)))
    (l35 : K.lookup f35 = some ⟨oc35, od35, .func (PySem.W.fnOf "_law_bad_keys" "_law_bad_keys" (defArgs st__law_bad_keys) (defBody st__law_bad_keys) (defScope st__law_bad_keys) .none kV35 dc35 pm35 an35 cd35 ct35), sl35⟩)
    (c35 : PySem.W.codeIn K cd35 "_law_bad_keys" = true)
    (k35 : PySem.W.keepIn K (.ref f35) = true)
    (a36 : PySem.W.nsIn K mainGlobals "_law_bad_weights" = some (some (.ref f36)))
    (l36 : K.lookup f36 = some ⟨oc36, od36, .func (PySem.W.fnOf "_law_bad_weights" "_law_bad_weights" (defArgs st__law_bad_weights) (defBody st__law_bad_weights) (defScope st__law_bad_weights) .none kV36 dc36 pm36 an36 cd36 ct36), sl36⟩)
    (c36 : PySem.W.codeIn K cd36 "_law_bad_weights" = true)
    (k36 : PySem.W.keepIn K (.ref f36) = true)
    (a37 : PySem.W.nsIn K mainGlobals "_law_bad_tree" = some (some (.ref f37)))
    (l37 : K.lookup f37 = some ⟨oc37, od37, .func (PySem.W.fnOf "_law_bad_tree" "_law_bad_tree" (defArgs st__law_bad_tree) (defBody st__law_bad_tree) (defScope st__law_bad_tree) .none kV37 dc37 pm37 an37 cd37 ct37), sl37⟩)
    (c37 : PySem.W.codeIn K cd37 "_law_bad_tree" = true)
    (k37 : PySem.W.keepIn K (.ref f37) = true)
    (a38 : PySem.W.nsIn K mainGlobals "_law_first" = some (some (.ref f38)))
    (l38 : K.lookup f38 = some ⟨oc38, od38, .func (PySem.W.fnOf "_law_first" "_law_first" (defArgs st__law_first) (defBody st__law_first) (defScope st__law_first) .none kV38 dc38 pm38 an38 cd38 ct38), sl38⟩)
    (c38 : PySem.W.codeIn K cd38 "_law_first" = true)
    (k38 : PySem.W.keepIn K (.ref f38) = true)
    (a39 : PySem.W.nsIn K mainGlobals "_law_second" = some (some (.ref f39)))
    (l39 : K.lookup f39 = some ⟨oc39, od39, .func (PySem.W.fnOf "_law_second" "_law_second" (defArgs st__law_second) (defBody st__law_second) (defScope st__law_second) .none kV39 dc39 pm39 an39 cd39 ct39), sl39⟩)
    (c39 : PySem.W.codeIn K cd39 "_law_second" = true)
    (k39 : PySem.W.keepIn K (.ref f39) = true)
    (a40 : PySem.W.nsIn K mainGlobals "_law_word" = some (some (.ref f40)))
    (l40 : K.lookup f40 = some ⟨oc40, od40, .func (PySem.W.fnOf "_law_word" "_law_word" (defArgs st__law_word) (defBody st__law_word) (defScope st__law_word) .none kV40 dc40 pm40 an40 cd40 ct40), sl40⟩)
    (c40 : PySem.W.codeIn K cd40 "_law_word" = true)
    (k40 : PySem.W.keepIn K (.ref f40) = true)
    (a41 : PySem.W.nsIn K mainGlobals "law" = some (some (.ref f41)))
    (l41 : K.lookup f41 = some ⟨oc41, od41, .func (PySem.W.fnOf "law" "law" (defArgs st_law_k17) (defBody st_law_k17) (defScope st_law_k17) .none kV41 dc41 pm41 an41 cd41 ct41), sl41⟩)
    (c41 : PySem.W.codeIn K cd41 "law" = true)
    (k41 : PySem.W.keepIn K (.ref f41) = true)
    (z_ValueError : PySem.W.nsIn K mainGlobals "ValueError" = some none)
    (z_all : PySem.W.nsIn K mainGlobals "all" = some none)
    (z_int : PySem.W.nsIn K mainGlobals "int" = some none)
    (z_isinstance : PySem.W.nsIn K mainGlobals "isinstance" = some none)
    (z_len : PySem.W.nsIn K mainGlobals "len" = some none)
    (z_list : PySem.W.nsIn K mainGlobals "list" = some none)
    (z_max : PySem.W.nsIn K mainGlobals "max" = some none)
    (z_min : PySem.W.nsIn K mainGlobals "min" = some none)
    (z_range : PySem.W.nsIn K mainGlobals "range" = some none)
    (z_reversed : PySem.W.nsIn K mainGlobals "reversed" = some none)
    (z_sum : PySem.W.nsIn K mainGlobals "sum" = some none)
    (y_LETTERS : PySem.W.nsIn K mainGlobals "LETTERS" = some (some (.str "abcdefghijklmnopqrstuvwxyz" tk_LETTERS)))
    (y_MOST_KEYS : PySem.W.nsIn K mainGlobals "MOST_KEYS" = some (some (.int 12 tk_MOST_KEYS)))
    (y_MOST_LETTERS : PySem.W.nsIn K mainGlobals "MOST_LETTERS" = some (some (.int 8 tk_MOST_LETTERS)))
    (y_MOST_WEIGHT : PySem.W.nsIn K mainGlobals "MOST_WEIGHT" = some (some (.int 1000000 tk_MOST_WEIGHT)))
    (x1_AtRoot : PySem.W.nsIn K mainGlobals "AtRoot" = some (some (.ref C_AtRoot)))
    (x2_AtRoot : PySem.W.excIn K C_AtRoot [.type "ValueError", .type "Exception", .type "BaseException", .type "object"] "ValueError.__new__" = true)
    (x3_AtRoot : PySem.W.keepIn K (.ref C_AtRoot) = true)
    (x4_AtRoot : PySem.W.subIn K (.ref C_AtRoot) (.type "BaseException") = some true)
    (x5_AtRoot : PySem.W.typeIn K (.ref C_AtRoot) = some (.type "type"))
    (x1_NoKey : PySem.W.nsIn K mainGlobals "NoKey" = some (some (.ref C_NoKey)))
    (x2_NoKey : PySem.W.excIn K C_NoKey [.type "ValueError", .type "Exception", .type "BaseException", .type "object"] "ValueError.__new__" = true)
    (x3_NoKey : PySem.W.keepIn K (.ref C_NoKey) = true)
    (x4_NoKey : PySem.W.subIn K (.ref C_NoKey) (.type "BaseException") = some true)
    (x5_NoKey : PySem.W.typeIn K (.ref C_NoKey) = some (.type "type"))
    (x1_NoKeys : PySem.W.nsIn K mainGlobals "NoKeys" = some (some (.ref C_NoKeys)))
    (x2_NoKeys : PySem.W.excIn K C_NoKeys [.type "ValueError", .type "Exception", .type "BaseException", .type "object"] "ValueError.__new__" = true)
    (x3_NoKeys : PySem.W.keepIn K (.ref C_NoKeys) = true)
    (x4_NoKeys : PySem.W.subIn K (.ref C_NoKeys) (.type "BaseException") = some true)
    (x5_NoKeys : PySem.W.typeIn K (.ref C_NoKeys) = some (.type "type"))
    (x1_NoTree : PySem.W.nsIn K mainGlobals "NoTree" = some (some (.ref C_NoTree)))
    (x2_NoTree : PySem.W.excIn K C_NoTree [.type "ValueError", .type "Exception", .type "BaseException", .type "object"] "ValueError.__new__" = true)
    (x3_NoTree : PySem.W.keepIn K (.ref C_NoTree) = true)
    (x4_NoTree : PySem.W.subIn K (.ref C_NoTree) (.type "BaseException") = some true)
    (x5_NoTree : PySem.W.typeIn K (.ref C_NoTree) = some (.type "type"))
    (x1_NoWeights : PySem.W.nsIn K mainGlobals "NoWeights" = some (some (.ref C_NoWeights)))
    (x2_NoWeights : PySem.W.excIn K C_NoWeights [.type "ValueError", .type "Exception", .type "BaseException", .type "object"] "ValueError.__new__" = true)
    (x3_NoWeights : PySem.W.keepIn K (.ref C_NoWeights) = true)
    (x4_NoWeights : PySem.W.subIn K (.ref C_NoWeights) (.type "BaseException") = some true)
    (x5_NoWeights : PySem.W.typeIn K (.ref C_NoWeights) = some (.type "type"))
    (x1_SeekError : PySem.W.nsIn K mainGlobals "SeekError" = some (some (.ref C_SeekError)))
    (ecn : PySem.W.specialIn K (.builtin "object.__class__") "__get__" = some (some (.builtin "getset_descriptor.__get__")))
    (ect : PySem.W.takesIn K (.builtin "object.__class__") = some true)
    (ehg_NoKeys : PySem.W.findIn K (.ref C_NoKeys) "__getattribute__" = some (some (.builtin "BaseException.__getattribute__")))
    (ehk_NoKeys : PySem.W.findIn K (.ref C_NoKeys) "__getattr__" = some none)
    (ehs_NoKeys : PySem.W.subIn K (.ref C_NoKeys) (.type "BaseException") = some true)
    (ehd_NoKeys : PySem.W.hasDictIn K C_NoKeys = true)
    (eha_NoKeys : PySem.W.findIn K (.ref C_NoKeys) "__class__" = some (some (.builtin "object.__class__")))
    (ehm_NoKeys : PySem.W.mroIn K C_NoKeys (.type "object") = some true)
    (ehg_NoWeights : PySem.W.findIn K (.ref C_NoWeights) "__getattribute__" = some (some (.builtin "BaseException.__getattribute__")))
    (ehk_NoWeights : PySem.W.findIn K (.ref C_NoWeights) "__getattr__" = some none)
    (ehs_NoWeights : PySem.W.subIn K (.ref C_NoWeights) (.type "BaseException") = some true)
    (ehd_NoWeights : PySem.W.hasDictIn K C_NoWeights = true)
    (eha_NoWeights : PySem.W.findIn K (.ref C_NoWeights) "__class__" = some (some (.builtin "object.__class__")))
    (ehm_NoWeights : PySem.W.mroIn K C_NoWeights (.type "object") = some true)
    (ehg_NoTree : PySem.W.findIn K (.ref C_NoTree) "__getattribute__" = some (some (.builtin "BaseException.__getattribute__")))
    (ehk_NoTree : PySem.W.findIn K (.ref C_NoTree) "__getattr__" = some none)
    (ehs_NoTree : PySem.W.subIn K (.ref C_NoTree) (.type "BaseException") = some true)
    (ehd_NoTree : PySem.W.hasDictIn K C_NoTree = true)
    (eha_NoTree : PySem.W.findIn K (.ref C_NoTree) "__class__" = some (some (.builtin "object.__class__")))
    (ehm_NoTree : PySem.W.mroIn K C_NoTree (.type "object") = some true)
    (ehg_NoKey : PySem.W.findIn K (.ref C_NoKey) "__getattribute__" = some (some (.builtin "BaseException.__getattribute__")))
    (ehk_NoKey : PySem.W.findIn K (.ref C_NoKey) "__getattr__" = some none)
    (ehs_NoKey : PySem.W.subIn K (.ref C_NoKey) (.type "BaseException") = some true)
    (ehd_NoKey : PySem.W.hasDictIn K C_NoKey = true)
    (eha_NoKey : PySem.W.findIn K (.ref C_NoKey) "__class__" = some (some (.builtin "object.__class__")))
    (ehm_NoKey : PySem.W.mroIn K C_NoKey (.type "object") = some true)
    (i_NoKey_NoKeys : PySem.W.kitOne K (.ref C_NoKey) (.ref C_NoKeys) = some false)
    (i_NoKey_NoTree : PySem.W.kitOne K (.ref C_NoKey) (.ref C_NoTree) = some false)
    (i_NoKey_NoWeights : PySem.W.kitOne K (.ref C_NoKey) (.ref C_NoWeights) = some false)
    (i_NoKey_ValueError : PySem.W.kitOne K (.ref C_NoKey) (.type "ValueError") = some true)
    (i_NoKeys_NoKeys : PySem.W.kitOne K (.ref C_NoKeys) (.ref C_NoKeys) = some true)
    (i_NoKeys_NoTree : PySem.W.kitOne K (.ref C_NoKeys) (.ref C_NoTree) = some false)
    (i_NoKeys_NoWeights : PySem.W.kitOne K (.ref C_NoKeys) (.ref C_NoWeights) = some false)
    (i_NoKeys_ValueError : PySem.W.kitOne K (.ref C_NoKeys) (.type "ValueError") = some true)
    (i_NoTree_NoKeys : PySem.W.kitOne K (.ref C_NoTree) (.ref C_NoKeys) = some false)
    (i_NoTree_NoTree : PySem.W.kitOne K (.ref C_NoTree) (.ref C_NoTree) = some true)
    (i_NoTree_NoWeights : PySem.W.kitOne K (.ref C_NoTree) (.ref C_NoWeights) = some false)
    (i_NoTree_ValueError : PySem.W.kitOne K (.ref C_NoTree) (.type "ValueError") = some true)
    (i_NoWeights_NoKeys : PySem.W.kitOne K (.ref C_NoWeights) (.ref C_NoKeys) = some false)
    (i_NoWeights_NoTree : PySem.W.kitOne K (.ref C_NoWeights) (.ref C_NoTree) = some false)
    (i_NoWeights_NoWeights : PySem.W.kitOne K (.ref C_NoWeights) (.ref C_NoWeights) = some true)
    (i_NoWeights_ValueError : PySem.W.kitOne K (.ref C_NoWeights) (.type "ValueError") = some true)
    (m_NoKey_SeekError : PySem.W.exmOne K (.ref C_NoKey) (.ref C_SeekError) = some true)
    (m_NoKeys_SeekError : PySem.W.exmOne K (.ref C_NoKeys) (.ref C_SeekError) = some true)
    (m_NoTree_SeekError : PySem.W.exmOne K (.ref C_NoTree) (.ref C_SeekError) = some true)
    (m_NoWeights_SeekError : PySem.W.exmOne K (.ref C_NoWeights) (.ref C_SeekError) = some true)
    : ∃ fd : FuncData, (∀ (s : Shared) (v : Value), BindsTo s fd ⟨[v], []⟩ [("script", v)]) ∧ ∀ base : Heap, K.In base → base.Ns mainGlobals mg → FnOk l.prog w K mg base (CX0) 60 fa fd ["script"] (lawSp K) := by
  have e := hfa.symm.trans (PySem.W.mg_of X G a41)
  cases e
  have F0 := fun_mk (st := st_row_of) l0 c0 k0
  have b0 := F0.binds (ps := ["tree"]) fun _ _ _ _ _ _ us hl => match us, hl with | [_], _ => rfl
  have F1 := fun_mk (st := st__law_cell_at) l1 c1 k1
  have b1 := F1.binds (ps := ["script", "k"]) fun _ _ _ _ _ _ us hl => match us, hl with | [_, _], _ => rfl
  have F2 := fun_mk (st := st__law_mix) l2 c2 k2
  have b2 := F2.binds (ps := ["cell", "k"]) fun _ _ _ _ _ _ us hl => match us, hl with | [_, _], _ => rfl
  have F3 := fun_mk (st := st__law_many) l3 c3 k3
  have b3 := F3.binds (ps := ["cell", "most"]) fun _ _ _ _ _ _ us hl => match us, hl with | [_, _], _ => rfl
  have F4 := fun_mk (st := st__law_keys) l4 c4 k4
  have b4 := F4.binds (ps := ["script", "many"]) fun _ _ _ _ _ _ us hl => match us, hl with | [_, _], _ => rfl
  have F5 := fun_mk (st := st__law_tree) l5 c5 k5
  have b5 := F5.binds (ps := ["keys", "cell", "first", "last"]) fun _ _ _ _ _ _ us hl => match us, hl with | [_, _, _, _], _ => rfl
  have F6 := fun_mk (st := st__law_mirrored) l6 c6 k6
  have b6 := F6.binds (ps := ["tree"]) fun _ _ _ _ _ _ us hl => match us, hl with | [_], _ => rfl
  have F7 := fun_mk (st := st_is_word) l7 c7 k7
  have b7 := F7.binds (ps := ["text"]) fun _ _ _ _ _ _ us hl => match us, hl with | [_], _ => rfl
  have F8 := fun_mk (st := st_are_keys) l8 c8 k8
  have b8 := F8.binds (ps := ["keys"]) fun _ _ _ _ _ _ us hl => match us, hl with | [_], _ => rfl
  have F9 := fun_mk (st := st_ask_keys) l9 c9 k9
  have b9 := F9.binds (ps := ["keys"]) fun _ _ _ _ _ _ us hl => match us, hl with | [_], _ => rfl
  have F10 := fun_mk (st := st_ask_tree) l10 c10 k10
  have b10 := F10.binds (ps := ["keys", "tree"]) fun _ _ _ _ _ _ us hl => match us, hl with | [_, _], _ => rfl
  have F11 := fun_mk (st := st_sought) l11 c11 k11
  have b11 := F11.binds (ps := ["tree", "word"]) fun _ _ _ _ _ _ us hl => match us, hl with | [_, _], _ => rfl
  have F12 := fun_mk (st := st_seek) l12 c12 k12
  have b12 := F12.binds (ps := ["keys", "tree", "word"]) fun _ _ _ _ _ _ us hl => match us, hl with | [_, _, _], _ => rfl
  have F13 := fun_mk (st := st_ask_weights) l13 c13 k13
  have b13 := F13.binds (ps := ["keys", "hits", "misses"]) fun _ _ _ _ _ _ us hl => match us, hl with | [_, _, _], _ => rfl
  have F14 := fun_mk (st := st_cost_of) l14 c14 k14
  have b14 := F14.binds (ps := ["hits", "misses", "tree", "first", "steps"]) fun _ _ _ _ _ _ us hl => match us, hl with | [_, _, _, _, _], _ => rfl
  have F15 := fun_mk (st := st_cost) l15 c15 k15
  have b15 := F15.binds (ps := ["keys", "hits", "misses", "tree"]) fun _ _ _ _ _ _ us hl => match us, hl with | [_, _, _, _], _ => rfl
  have F16 := fun_mk (st := st__law_weights) l16 c16 k16
  have b16 := F16.binds (ps := ["script", "first", "many"]) fun _ _ _ _ _ _ us hl => match us, hl with | [_, _, _], _ => rfl
  have F17 := fun_mk (st := st_tables) l17 c17 k17
  have b17 := F17.binds (ps := ["hits", "misses"]) fun _ _ _ _ _ _ us hl => match us, hl with | [_, _], _ => rfl
  have F18 := fun_mk (st := st_worths) l18 c18 k18
  have b18 := F18.binds (ps := ["keys", "hits", "misses"]) fun _ _ _ _ _ _ us hl => match us, hl with | [_, _, _], _ => rfl
  have F19 := fun_mk (st := st_least) l19 c19 k19
  have b19 := F19.binds (ps := ["keys", "hits", "misses"]) fun _ _ _ _ _ _ us hl => match us, hl with | [_, _, _], _ => rfl
  have F20 := fun_mk (st := st_roots) l20 c20 k20
  have b20 := F20.binds (ps := ["keys", "hits", "misses"]) fun _ _ _ _ _ _ us hl => match us, hl with | [_, _, _], _ => rfl
  have F21 := fun_mk (st := st_built) l21 c21 k21
  have b21 := F21.binds (ps := ["keys", "root", "first", "last"]) fun _ _ _ _ _ _ us hl => match us, hl with | [_, _, _, _], _ => rfl
  have F22 := fun_mk (st := st_best) l22 c22 k22
  have b22 := F22.binds (ps := ["keys", "hits", "misses"]) fun _ _ _ _ _ _ us hl => match us, hl with | [_, _, _], _ => rfl
  have F23 := fun_mk (st := st_halved) l23 c23 k23
  have b23 := F23.binds (ps := ["keys"]) fun _ _ _ _ _ _ us hl => match us, hl with | [_], _ => rfl
  have F24 := fun_mk (st := st_even) l24 c24 k24
  have b24 := F24.binds (ps := ["keys"]) fun _ _ _ _ _ _ us hl => match us, hl with | [_], _ => rfl
  have F25 := fun_mk (st := st_height) l25 c25 k25
  have b25 := F25.binds (ps := ["tree"]) fun _ _ _ _ _ _ us hl => match us, hl with | [_], _ => rfl
  have F26 := fun_mk (st := st_most_steps) l26 c26 k26
  have b26 := F26.binds (ps := ["keys", "tree"]) fun _ _ _ _ _ _ us hl => match us, hl with | [_, _], _ => rfl
  have F27 := fun_mk (st := st_lifted_left) l27 c27 k27
  have b27 := F27.binds (ps := ["tree"]) fun _ _ _ _ _ _ us hl => match us, hl with | [_], _ => rfl
  have F28 := fun_mk (st := st_lifted_right) l28 c28 k28
  have b28 := F28.binds (ps := ["tree"]) fun _ _ _ _ _ _ us hl => match us, hl with | [_], _ => rfl
  have F29 := fun_mk (st := st_up) l29 c29 k29
  have b29 := F29.binds (ps := ["tree", "word"]) fun _ _ _ _ _ _ us hl => match us, hl with | [_, _], _ => rfl
  have F30 := fun_mk (st := st_turned) l30 c30 k30
  have b30 := F30.binds (ps := ["keys", "tree", "word"]) fun _ _ _ _ _ _ us hl => match us, hl with | [_, _, _], _ => rfl
  have F31 := fun_mk (st := st_ways) l31 c31 k31
  have b31 := F31.binds (ps := ["one", "other"]) fun _ _ _ _ _ _ us hl => match us, hl with | [_, _], _ => rfl
  have F32 := fun_mk (st := st_turns) l32 c32 k32
  have b32 := F32.binds (ps := ["keys", "one", "other"]) fun _ _ _ _ _ _ us hl => match us, hl with | [_, _, _], _ => rfl
  have F33 := fun_mk (st := st_written) l33 c33 k33
  have b33 := F33.binds (ps := ["tree"]) fun _ _ _ _ _ _ us hl => match us, hl with | [_], _ => rfl
  have F34 := fun_mk (st := st_shown) l34 c34 k34
  have b34 := F34.binds (ps := ["keys", "tree"]) fun _ _ _ _ _ _ us hl => match us, hl with | [_, _], _ => rfl
  have F35 := fun_mk (st := st__law_bad_keys) l35 c35 k35
  have b35 := F35.binds (ps := ["keys", "cell"]) fun _ _ _ _ _ _ us hl => match us, hl with | [_, _], _ => rfl
  have F36 := fun_mk (st := st__law_bad_weights) l36 c36 k36
  have b36 := F36.binds (ps := ["rows", "cell"]) fun _ _ _ _ _ _ us hl => match us, hl with | [_, _], _ => rfl
  have F37 := fun_mk (st := st__law_bad_tree) l37 c37 k37
  have b37 := F37.binds (ps := ["tree", "cell", "keys"]) fun _ _ _ _ _ _ us hl => match us, hl with | [_, _, _], _ => rfl
  have F38 := fun_mk (st := st__law_first) l38 c38 k38
  have b38 := F38.binds (ps := ["which", "keys", "rows", "tree"]) fun _ _ _ _ _ _ us hl => match us, hl with | [_, _, _, _], _ => rfl
  have F39 := fun_mk (st := st__law_second) l39 c39 k39
  have b39 := F39.binds (ps := ["which", "keys", "tree", "good"]) fun _ _ _ _ _ _ us hl => match us, hl with | [_, _, _, _], _ => rfl
  have F40 := fun_mk (st := st__law_word) l40 c40 k40
  have b40 := F40.binds (ps := ["which", "keys", "rows", "tree", "good"]) fun _ _ _ _ _ _ us hl => match us, hl with | [_, _, _, _, _], _ => rfl
  have F41 := fun_mk (st := st_law_k17) l41 c41 k41
  have T : Tp K mg := {
    n_ValueError := PySem.W.mg_none_of X G z_ValueError
    n_all := PySem.W.mg_none_of X G z_all
    n_int := PySem.W.mg_none_of X G z_int
    n_isinstance := PySem.W.mg_none_of X G z_isinstance
    n_len := PySem.W.mg_none_of X G z_len
    n_list := PySem.W.mg_none_of X G z_list
    n_max := PySem.W.mg_none_of X G z_max
    n_min := PySem.W.mg_none_of X G z_min
    n_range := PySem.W.mg_none_of X G z_range
    n_reversed := PySem.W.mg_none_of X G z_reversed
    n_sum := PySem.W.mg_none_of X G z_sum
    c_LETTERS := ⟨_, PySem.W.mg_of X G y_LETTERS⟩
    c_MOST_KEYS := ⟨_, PySem.W.mg_of X G y_MOST_KEYS⟩
    c_MOST_LETTERS := ⟨_, PySem.W.mg_of X G y_MOST_LETTERS⟩
    c_MOST_WEIGHT := ⟨_, PySem.W.mg_of X G y_MOST_WEIGHT⟩
    x_AtRoot := ⟨⟨_, PySem.W.mg_of X G x1_AtRoot, x2_AtRoot, x3_AtRoot, x4_AtRoot, x5_AtRoot⟩⟩
    x_NoKey := ⟨⟨_, PySem.W.mg_of X G x1_NoKey, x2_NoKey, x3_NoKey, x4_NoKey, x5_NoKey⟩⟩
    x_NoKeys := ⟨⟨_, PySem.W.mg_of X G x1_NoKeys, x2_NoKeys, x3_NoKeys, x4_NoKeys, x5_NoKeys⟩⟩
    x_NoTree := ⟨⟨_, PySem.W.mg_of X G x1_NoTree, x2_NoTree, x3_NoTree, x4_NoTree, x5_NoTree⟩⟩
    x_NoWeights := ⟨⟨_, PySem.W.mg_of X G x1_NoWeights, x2_NoWeights, x3_NoWeights, x4_NoWeights, x5_NoWeights⟩⟩
    xs := ⟨C_NoKey, C_NoKeys, C_NoTree, C_NoWeights, C_SeekError, { g_NoKey := PySem.W.mg_of X G x1_NoKey, n_NoKey := x1_NoKey, g_NoKeys := PySem.W.mg_of X G x1_NoKeys, n_NoKeys := x1_NoKeys, g_NoTree := PySem.W.mg_of X G x1_NoTree, n_NoTree := x1_NoTree, g_NoWeights := PySem.W.mg_of X G x1_NoWeights, n_NoWeights := x1_NoWeights, g_SeekError := PySem.W.mg_of X G x1_SeekError, n_SeekError := x1_SeekError, e_NoKeys := ⟨ehg_NoKeys, ehk_NoKeys, ehs_NoKeys, ehd_NoKeys, eha_NoKeys, ecn, ect, ehm_NoKeys⟩, e_NoWeights := ⟨ehg_NoWeights, ehk_NoWeights, ehs_NoWeights, ehd_NoWeights, eha_NoWeights, ecn, ect, ehm_NoWeights⟩, e_NoTree := ⟨ehg_NoTree, ehk_NoTree, ehs_NoTree, ehd_NoTree, eha_NoTree, ecn, ect, ehm_NoTree⟩, e_NoKey := ⟨ehg_NoKey, ehk_NoKey, ehs_NoKey, ehd_NoKey, eha_NoKey, ecn, ect, ehm_NoKey⟩, i_NoKey_NoKeys := i_NoKey_NoKeys, i_NoKey_NoTree := i_NoKey_NoTree, i_NoKey_NoWeights := i_NoKey_NoWeights, i_NoKey_ValueError := i_NoKey_ValueError, i_NoKeys_NoKeys := i_NoKeys_NoKeys, i_NoKeys_NoTree := i_NoKeys_NoTree, i_NoKeys_NoWeights := i_NoKeys_NoWeights, i_NoKeys_ValueError := i_NoKeys_ValueError, i_NoTree_NoKeys := i_NoTree_NoKeys, i_NoTree_NoTree := i_NoTree_NoTree, i_NoTree_NoWeights := i_NoTree_NoWeights, i_NoTree_ValueError := i_NoTree_ValueError, i_NoWeights_NoKeys := i_NoWeights_NoKeys, i_NoWeights_NoTree := i_NoWeights_NoTree, i_NoWeights_NoWeights := i_NoWeights_NoWeights, i_NoWeights_ValueError := i_NoWeights_ValueError, m_NoKey_SeekError := m_NoKey_SeekError, m_NoKeys_SeekError := m_NoKeys_SeekError, m_NoTree_SeekError := m_NoTree_SeekError, m_NoWeights_SeekError := m_NoWeights_SeekError }⟩
    d_row_of := ⟨⟨_, _, F0, PySem.W.mg_of X G a0, b0⟩⟩
    d__law_cell_at := ⟨⟨_, _, F1, PySem.W.mg_of X G a1, b1⟩⟩
    d__law_mix := ⟨⟨_, _, F2, PySem.W.mg_of X G a2, b2⟩⟩
    d__law_many := ⟨⟨_, _, F3, PySem.W.mg_of X G a3, b3⟩⟩
    d__law_keys := ⟨⟨_, _, F4, PySem.W.mg_of X G a4, b4⟩⟩
    d__law_tree := ⟨⟨_, _, F5, PySem.W.mg_of X G a5, b5⟩⟩
    d__law_mirrored := ⟨⟨_, _, F6, PySem.W.mg_of X G a6, b6⟩⟩
    d_is_word := ⟨⟨_, _, F7, PySem.W.mg_of X G a7, b7⟩⟩
    d_are_keys := ⟨⟨_, _, F8, PySem.W.mg_of X G a8, b8⟩⟩
    d_ask_keys := ⟨⟨_, _, F9, PySem.W.mg_of X G a9, b9⟩⟩
    d_ask_tree := ⟨⟨_, _, F10, PySem.W.mg_of X G a10, b10⟩⟩
    d_sought := ⟨⟨_, _, F11, PySem.W.mg_of X G a11, b11⟩⟩
    d_seek := ⟨⟨_, _, F12, PySem.W.mg_of X G a12, b12⟩⟩
    d_ask_weights := ⟨⟨_, _, F13, PySem.W.mg_of X G a13, b13⟩⟩
    d_cost_of := ⟨⟨_, _, F14, PySem.W.mg_of X G a14, b14⟩⟩
    d_cost := ⟨⟨_, _, F15, PySem.W.mg_of X G a15, b15⟩⟩
    d__law_weights := ⟨⟨_, _, F16, PySem.W.mg_of X G a16, b16⟩⟩
    d_tables := ⟨⟨_, _, F17, PySem.W.mg_of X G a17, b17⟩⟩
    d_worths := ⟨⟨_, _, F18, PySem.W.mg_of X G a18, b18⟩⟩
    d_least := ⟨⟨_, _, F19, PySem.W.mg_of X G a19, b19⟩⟩
    d_roots := ⟨⟨_, _, F20, PySem.W.mg_of X G a20, b20⟩⟩
    d_built := ⟨⟨_, _, F21, PySem.W.mg_of X G a21, b21⟩⟩
    d_best := ⟨⟨_, _, F22, PySem.W.mg_of X G a22, b22⟩⟩
    d_halved := ⟨⟨_, _, F23, PySem.W.mg_of X G a23, b23⟩⟩
    d_even := ⟨⟨_, _, F24, PySem.W.mg_of X G a24, b24⟩⟩
    d_height := ⟨⟨_, _, F25, PySem.W.mg_of X G a25, b25⟩⟩
    d_most_steps := ⟨⟨_, _, F26, PySem.W.mg_of X G a26, b26⟩⟩
    d_lifted_left := ⟨⟨_, _, F27, PySem.W.mg_of X G a27, b27⟩⟩
    d_lifted_right := ⟨⟨_, _, F28, PySem.W.mg_of X G a28, b28⟩⟩
    d_up := ⟨⟨_, _, F29, PySem.W.mg_of X G a29, b29⟩⟩
    d_turned := ⟨⟨_, _, F30, PySem.W.mg_of X G a30, b30⟩⟩
    d_ways := ⟨⟨_, _, F31, PySem.W.mg_of X G a31, b31⟩⟩
    d_turns := ⟨⟨_, _, F32, PySem.W.mg_of X G a32, b32⟩⟩
    d_written := ⟨⟨_, _, F33, PySem.W.mg_of X G a33, b33⟩⟩
    d_shown := ⟨⟨_, _, F34, PySem.W.mg_of X G a34, b34⟩⟩
    d__law_bad_keys := ⟨⟨_, _, F35, PySem.W.mg_of X G a35, b35⟩⟩
    d__law_bad_weights := ⟨⟨_, _, F36, PySem.W.mg_of X G a36, b36⟩⟩
    d__law_bad_tree := ⟨⟨_, _, F37, PySem.W.mg_of X G a37, b37⟩⟩
    d__law_first := ⟨⟨_, _, F38, PySem.W.mg_of X G a38, b38⟩⟩
    d__law_second := ⟨⟨_, _, F39, PySem.W.mg_of X G a39, b39⟩⟩
    d__law_word := ⟨⟨_, _, F40, PySem.W.mg_of X G a40, b40⟩⟩ }
  exact ⟨PySem.W.fnOf "law" "law" (defArgs st_law_k17) (defBody st_law_k17) (defScope st_law_k17) .none kV41 dc41 pm41 an41 cd41 ct41, fun s v => .of_eq rfl, fun base _ _ => law_fin (k_law T 59 F41) pure_k17⟩
end k17
end Sk
open PySem PySem.W PyProof.Rows
set_option maxHeartbeats 0 in
theorem PySem.Challenge.cw_seektree_k17_refused_ahead_of_all_holds : PySem.Challenge.rw_seektree_k17_refused_ahead_of_all.Holds := by
  w_on; o_law; k_head; (case hw => w_witness2)
  k_fill
  refine L2.walk_of (l := PySem.Challenge.rw_seektree_k17_refused_ahead_of_all) (n := 63) (k := 60) (x := "script") (CX := fun _ => L2.CX0) (sp := fun w => Sk.lawSp _) rfl (by decide) rfl ⟨rfl, by decide, by decide⟩ (fun w h Y => PySem.W.kIn_of Y) ?F (fun _ _ a ns hl _ hS => ⟨a, ns, rfl, hS, hl, fun _ => rfl⟩) (fun _ _ _ _ _ h => h)
  case F =>
    intro w mg fa h KX G hmg
    refine' Sk.k17.all_mk KX G hmg ?a0 ?l0 ?c0 ?k0 ?a1 ?l1 ?c1 ?k1 ?a2 ?l2 ?c2 ?k2 ?a3 ?l3 ?c3 ?k3 ?a4 ?l4 ?c4 ?k4 ?a5 ?l5 ?c5 ?k5 ?a6 ?l6 ?c6 ?k6 ?a7 ?l7 ?c7 ?k7 ?a8 ?l8 ?c8 ?k8 ?a9 ?l9 ?c9 ?k9 ?a10 ?l10 ?c10 ?k10 ?a11 ?l11 ?c11 ?k11 ?a12 ?l12 ?c12 ?k12 ?a13 ?l13 ?c13 ?k13 ?a14 ?l14 ?c14 ?k14 ?a15 ?l15 ?c15 ?k15 ?a16 ?l16 ?c16 ?k16 ?a17 ?l17 ?c17 ?k17 ?a18 ?l18 ?c18 ?k18 ?a19 ?l19 ?c19 ?k19 ?a20 ?l20 ?c20 ?k20 ?a21 ?l21 ?c21 ?k21 ?a22 ?l22 ?c22 ?k22 ?a23 ?l23 ?c23 ?k23 ?a24 ?l24 ?c24 ?k24 ?a25 ?l25 ?c25 ?k25 ?a26 ?l26 ?c26 ?k26 ?a27 ?l27 ?c27 ?k27 ?a28 ?l28 ?c28 ?k28 ?a29 ?l29 ?c29 ?k29 ?a30 ?l30 ?c30 ?k30 ?a31 ?l31 ?c31 ?k31 ?a32 ?l32 ?c32 ?k32 ?a33 ?l33 ?c33 ?k33 ?a34 ?l34 ?c34 ?k34 ?a35 ?l35 ?c35 ?k35 ?a36 ?l36 ?c36 ?k36 ?a37 ?l37 ?c37 ?k37 ?a38 ?l38 ?c38 ?k38 ?a39 ?l39 ?c39 ?k39 ?a40 ?l40 ?c40 ?k40 ?a41 ?l41 ?c41 ?k41 ?z_ValueError ?z_all ?z_int ?z_isinstance ?z_len ?z_list ?z_max ?z_min ?z_range ?z_reversed ?z_sum ?y_LETTERS ?y_MOST_KEYS ?y_MOST_LETTERS ?y_MOST_WEIGHT ?x1_AtRoot ?x2_AtRoot ?x3_AtRoot ?x4_AtRoot ?x5_AtRoot ?x1_NoKey ?x2_NoKey ?x3_NoKey ?x4_NoKey ?x5_NoKey ?x1_NoKeys ?x2_NoKeys ?x3_NoKeys ?x4_NoKeys ?x5_NoKeys ?x1_NoTree ?x2_NoTree ?x3_NoTree ?x4_NoTree ?x5_NoTree ?x1_NoWeights ?x2_NoWeights ?x3_NoWeights ?x4_NoWeights ?x5_NoWeights ?x1_SeekError ?ecn ?ect ?ehg_NoKeys ?ehk_NoKeys ?ehs_NoKeys ?ehd_NoKeys ?eha_NoKeys ?ehm_NoKeys ?ehg_NoWeights ?ehk_NoWeights ?ehs_NoWeights ?ehd_NoWeights ?eha_NoWeights ?ehm_NoWeights ?ehg_NoTree ?ehk_NoTree ?ehs_NoTree ?ehd_NoTree ?eha_NoTree ?ehm_NoTree ?ehg_NoKey ?ehk_NoKey ?ehs_NoKey ?ehd_NoKey ?eha_NoKey ?ehm_NoKey ?i_NoKey_NoKeys ?i_NoKey_NoTree ?i_NoKey_NoWeights ?i_NoKey_ValueError ?i_NoKeys_NoKeys ?i_NoKeys_NoTree ?i_NoKeys_NoWeights ?i_NoKeys_ValueError ?i_NoTree_NoKeys ?i_NoTree_NoTree ?i_NoTree_NoWeights ?i_NoTree_ValueError ?i_NoWeights_NoKeys ?i_NoWeights_NoTree ?i_NoWeights_NoWeights ?i_NoWeights_ValueError ?m_NoKey_SeekError ?m_NoKeys_SeekError ?m_NoTree_SeekError ?m_NoWeights_SeekError
    (case a0 => k_is); (case l0 => k_is); (case c0 => k_is); (case k0 => k_is); (case a1 => k_is); (case l1 => k_is); (case c1 => k_is); (case k1 => k_is); (case a2 => k_is); (case l2 => k_is); (case c2 => k_is); (case k2 => k_is); (case a3 => k_is); (case l3 => k_is); (case c3 => k_is); (case k3 => k_is); (case a4 => k_is); (case l4 => k_is); (case c4 => k_is); (case k4 => k_is); (case a5 => k_is); (case l5 => k_is); (case c5 => k_is); (case k5 => k_is); (case a6 => k_is); (case l6 => k_is); (case c6 => k_is); (case k6 => k_is); (case a7 => k_is); (case l7 => k_is); (case c7 => k_is); (case k7 => k_is); (case a8 => k_is); (case l8 => k_is); (case c8 => k_is); (case k8 => k_is); (case a9 => k_is); (case l9 => k_is); (case c9 => k_is); (case k9 => k_is); (case a10 => k_is); (case l10 => k_is); (case c10 => k_is); (case k10 => k_is); (case a11 => k_is); (case l11 => k_is); (case c11 => k_is); (case k11 => k_is); (case a12 => k_is); (case l12 => k_is); (case c12 => k_is); (case k12 => k_is); (case a13 => k_is); (case l13 => k_is); (case c13 => k_is); (case k13 => k_is); (case a14 => k_is); (case l14 => k_is); (case c14 => k_is); (case k14 => k_is); (case a15 => k_is); (case l15 => k_is); (case c15 => k_is); (case k15 => k_is); (case a16 => k_is); (case l16 => k_is); (case c16 => k_is); (case k16 => k_is); (case a17 => k_is); (case l17 => k_is); (case c17 => k_is); (case k17 => k_is); (case a18 => k_is); (case l18 => k_is); (case c18 => k_is); (case k18 => k_is); (case a19 => k_is); (case l19 => k_is); (case c19 => k_is); (case k19 => k_is); (case a20 => k_is); (case l20 => k_is); (case c20 => k_is); (case k20 => k_is); (case a21 => k_is); (case l21 => k_is); (case c21 => k_is); (case k21 => k_is); (case a22 => k_is); (case l22 => k_is); (case c22 => k_is); (case k22 => k_is); (case a23 => k_is); (case l23 => k_is); (case c23 => k_is); (case k23 => k_is); (case a24 => k_is); (case l24 => k_is); (case c24 => k_is); (case k24 => k_is); (case a25 => k_is); (case l25 => k_is); (case c25 => k_is); (case k25 => k_is); (case a26 => k_is); (case l26 => k_is); (case c26 => k_is); (case k26 => k_is); (case a27 => k_is); (case l27 => k_is); (case c27 => k_is); (case k27 => k_is); (case a28 => k_is); (case l28 => k_is); (case c28 => k_is); (case k28 => k_is); (case a29 => k_is); (case l29 => k_is); (case c29 => k_is); (case k29 => k_is); (case a30 => k_is); (case l30 => k_is); (case c30 => k_is); (case k30 => k_is); (case a31 => k_is); (case l31 => k_is); (case c31 => k_is); (case k31 => k_is); (case a32 => k_is); (case l32 => k_is); (case c32 => k_is); (case k32 => k_is); (case a33 => k_is); (case l33 => k_is); (case c33 => k_is); (case k33 => k_is); (case a34 => k_is); (case l34 => k_is); (case c34 => k_is); (case k34 => k_is); (case a35 => k_is); (case l35 => k_is); (case c35 => k_is); (case k35 => k_is); (case a36 => k_is); (case l36 => k_is); (case c36 => k_is); (case k36 => k_is); (case a37 => k_is); (case l37 => k_is); (case c37 => k_is); (case k37 => k_is); (case a38 => k_is); (case l38 => k_is); (case c38 => k_is); (case k38 => k_is); (case a39 => k_is); (case l39 => k_is); (case c39 => k_is); (case k39 => k_is); (case a40 => k_is); (case l40 => k_is); (case c40 => k_is); (case k40 => k_is); (case a41 => k_is); (case l41 => k_is); (case c41 => k_is); (case k41 => k_is); (case z_ValueError => k_is); (case z_all => k_is); (case z_int => k_is); (case z_isinstance => k_is); (case z_len => k_is); (case z_list => k_is); (case z_max => k_is); (case z_min => k_is); (case z_range => k_is); (case z_reversed => k_is); (case z_sum => k_is); (case y_LETTERS => k_is); (case y_MOST_KEYS => k_is); (case y_MOST_LETTERS => k_is); (case y_MOST_WEIGHT => k_is); (case x1_AtRoot => k_is); (case x2_AtRoot => k_exc); (case x3_AtRoot => k_is); (case x4_AtRoot => k_is); (case x5_AtRoot => k_is); (case x1_NoKey => k_is); (case x2_NoKey => k_exc); (case x3_NoKey => k_is); (case x4_NoKey => k_is); (case x5_NoKey => k_is); (case x1_NoKeys => k_is); (case x2_NoKeys => k_exc); (case x3_NoKeys => k_is); (case x4_NoKeys => k_is); (case x5_NoKeys => k_is); (case x1_NoTree => k_is); (case x2_NoTree => k_exc); (case x3_NoTree => k_is); (case x4_NoTree => k_is); (case x5_NoTree => k_is); (case x1_NoWeights => k_is); (case x2_NoWeights => k_exc); (case x3_NoWeights => k_is); (case x4_NoWeights => k_is); (case x5_NoWeights => k_is); (case x1_SeekError => k_is); (case ecn => k_is); (case ect => k_is); (case ehg_NoKeys => k_is); (case ehk_NoKeys => k_is); (case ehs_NoKeys => k_is); (case ehd_NoKeys => k_is); (case eha_NoKeys => k_is); (case ehm_NoKeys => k_is); (case ehg_NoWeights => k_is); (case ehk_NoWeights => k_is); (case ehs_NoWeights => k_is); (case ehd_NoWeights => k_is); (case eha_NoWeights => k_is); (case ehm_NoWeights => k_is); (case ehg_NoTree => k_is); (case ehk_NoTree => k_is); (case ehs_NoTree => k_is); (case ehd_NoTree => k_is); (case eha_NoTree => k_is); (case ehm_NoTree => k_is); (case ehg_NoKey => k_is); (case ehk_NoKey => k_is); (case ehs_NoKey => k_is); (case ehd_NoKey => k_is); (case eha_NoKey => k_is); (case ehm_NoKey => k_is); (case i_NoKey_NoKeys => kit_is); (case i_NoKey_NoTree => kit_is); (case i_NoKey_NoWeights => kit_is); (case i_NoKey_ValueError => kit_is); (case i_NoKeys_NoKeys => kit_is); (case i_NoKeys_NoTree => kit_is); (case i_NoKeys_NoWeights => kit_is); (case i_NoKeys_ValueError => kit_is); (case i_NoTree_NoKeys => kit_is); (case i_NoTree_NoTree => kit_is); (case i_NoTree_NoWeights => kit_is); (case i_NoTree_ValueError => kit_is); (case i_NoWeights_NoKeys => kit_is); (case i_NoWeights_NoTree => kit_is); (case i_NoWeights_NoWeights => kit_is); (case i_NoWeights_ValueError => kit_is); (case m_NoKey_SeekError => kts_exm); (case m_NoKeys_SeekError => kts_exm); (case m_NoTree_SeekError => kts_exm); (case m_NoWeights_SeekError => kts_exm)
