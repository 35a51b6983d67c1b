import PyProof.Rows.All
import Wide.All
import OpenK.AllK
import Wide.FinOn
import HandS.ForMost
import HandS.ForExc
import HandS.TryMany
import HandS.IsInst
import HandS.Deep
import HandS.ExcIs
import HandS.Rev
import HandS.TupAny
import HandS.HotCalls
import HandS.Replace
import PySem.Challenge.RW_seektree_k16_texts_refused
import KE.RegKIsAll
import KE.RegKTryMore
set_option Elab.async false
set_option linter.all false
set_option maxRecDepth 100000
set_option maxHeartbeats 4000000
namespace Sk
open PySem PySem.Spec PyProof.Rows L2

/-! ### results -/
inductive Rs (α : Type) where
  | ok (a : α) | exc (x : String) | bad
def Rs.bind {α β : Type} : Rs α → (α → Rs β) → Rs β
  | .ok a, f => f a
  | .exc x, _ => .exc x
  | .bad, _ => .bad
theorem Rs.ok_bind {α β : Type} (a : α) (f : α → Rs β) : (Rs.ok a).bind f = f a := rfl
theorem Rs.exc_bind {α β : Type} (x : String) (f : α → Rs β) : (Rs.exc x : Rs α).bind f = .exc x := rfl
theorem Rs.bad_bind {α β : Type} (f : α → Rs β) : (Rs.bad : Rs α).bind f = .bad := rfl
abbrev D := PyData
abbrev Ev := List (Option D)

/-! ### what a value stands for -/
abbrev IP := List ((Int × Int) × Int)
def dkv (ps : IP) : List (List Key × V) := ps.map fun p => ([.inl p.1.1, .inl p.1.2], V.int p.2)
def ddt (ps : IP) : List (D × D) := ps.map fun p => (.tuple [.int p.1.1, .int p.1.2], .int p.2)
/-- an exception object of the class cls at a -/
def ExE (cls : Value) (a : Addr) : HO := .ext fun h => ∃ (oe : Obj) (vs : Array Value), h.get? a = some oe ∧ Zc cls none oe ∧ oe.data = .fields vs
/-- an exception of the class named z, as data -/
def dE (z : Str) : D := .dict [(.none, .str z)]
def ExR (K : PySem.W.Frag) (H : Hp) (kvs : List (D × D)) (v : V) : Prop := ∃ a z C, v = .ref a ∧ kvs = [(.none, .str z)] ∧ PySem.W.nsIn K mainGlobals z = some (some (.ref C)) ∧ H a = some (ExE (.ref C) a)
mutual
def Rp (K : PySem.W.Frag) (H : Hp) : D → V → Prop
  | .none, v => v = .non
  | .bool b, v => v = .bl b
  | .int i, v => v = .int i
  | .str s, v => v = .str s
  | .list ds, v => ∃ a vs, v = .ref a ∧ SqL K H a vs ∧ RpL K H ds vs
  | .tuple ds, v => ∃ a vs, v = .ref a ∧ SqT K H a vs ∧ RpL K H ds vs
  | .dict kvs, v => (∃ a ps, v = .ref a ∧ H a = some (.dT (dkv ps)) ∧ kvs = ddt ps) ∨ ExR K H kvs v
def RpL (K : PySem.W.Frag) (H : Hp) : List D → List V → Prop
  | [], vs => vs = []
  | d :: ds, vs => ∃ v r, vs = v :: r ∧ Rp K H d v ∧ RpL K H ds r
end
section
variable {K : PySem.W.Frag} {H H' : Hp}
theorem sqt_same {a : Addr} {xs : List V} (e : Same H H') (h : SqT K H a xs) : SqT K H' a xs := by
  rcases h with (h | ⟨o, h⟩) | h
  · exact .inl (.inl (e _ _ h))
  · exact .inl (.inr ⟨o, e _ _ h⟩)
  · exact .inr h
mutual
theorem Rp.mono (e : Same H H') : ∀ {d : D} {v : V}, Rp K H d v → Rp K H' d v
  | .none, v, h => h
  | .bool b, v, h => h
  | .int i, v, h => h
  | .str s, v, h => h
  | .list ds, v, h => by
    obtain ⟨a, vs, r, s, l⟩ := h
    exact ⟨a, vs, r, e.seq s, RpL.mono e l⟩
  | .tuple ds, v, h => by
    obtain ⟨a, vs, r, s, l⟩ := h
    exact ⟨a, vs, r, sqt_same e s, RpL.mono e l⟩
  | .dict kvs, v, h => by
    rcases h with ⟨a, ps, r, s, l⟩ | ⟨a, z, C, r, l, n, s⟩
    · exact .inl ⟨a, ps, r, e _ _ s, l⟩
    · exact .inr ⟨a, z, C, r, l, n, e _ _ s⟩
theorem RpL.mono (e : Same H H') : ∀ {ds : List D} {vs : List V}, RpL K H ds vs → RpL K H' ds vs
  | [], vs, h => h
  | d :: ds, vs, h => by
    obtain ⟨v, r, ev, h1, h2⟩ := h
    exact ⟨v, r, ev, Rp.mono e h1, RpL.mono e h2⟩
end
theorem RpL.nil : RpL K H [] [] := rfl
theorem RpL.cons {d : D} {ds : List D} {v : V} {vs : List V} (h : Rp K H d v) (t : RpL K H ds vs) : RpL K H (d :: ds) (v :: vs) := ⟨v, vs, rfl, h, t⟩
theorem RpL.length : ∀ {ds : List D} {vs : List V}, RpL K H ds vs → vs.length = ds.length
  | [], vs, h => by cases h; rfl
  | d :: ds, vs, h => by
    obtain ⟨v, r, rfl, _, t⟩ := h
    simp only [List.length_cons, RpL.length t]
theorem RpL.get : ∀ {ds : List D} {vs : List V} {i : Nat} {d : D}, RpL K H ds vs → ds[i]? = some d → ∃ v, vs[i]? = some v ∧ Rp K H d v
  | [], vs, i, d, h, e => by simp at e
  | x :: ds, vs, 0, d, h, e => by
    obtain ⟨v, r, rfl, h1, t⟩ := h
    simp only [List.getElem?_cons_zero, Option.some.injEq] at e
    subst e
    exact ⟨v, rfl, h1⟩
  | x :: ds, vs, i + 1, d, h, e => by
    obtain ⟨v, r, rfl, h1, t⟩ := h
    exact RpL.get (i := i) t e
theorem RpL.get' : ∀ {ds : List D} {vs : List V} {i : Nat} {v : V}, RpL K H ds vs → vs[i]? = some v → ∃ d, ds[i]? = some d ∧ Rp K H d v
  | [], vs, i, v, h, e => by cases h; simp at e
  | x :: ds, vs, 0, v, h, e => by
    obtain ⟨v', r, rfl, h1, t⟩ := h
    simp only [List.getElem?_cons_zero, Option.some.injEq] at e
    subst e
    exact ⟨x, rfl, h1⟩
  | x :: ds, vs, i + 1, v, h, e => by
    obtain ⟨v', r, rfl, h1, t⟩ := h
    exact RpL.get' (i := i) t e
theorem RpL.append : ∀ {ds es : List D} {vs ws : List V}, RpL K H ds vs → RpL K H es ws → RpL K H (ds ++ es) (vs ++ ws)
  | [], es, vs, ws, h, t => by cases h; exact t
  | d :: ds, es, vs, ws, h, t => by
    obtain ⟨v, r, rfl, h1, h2⟩ := h
    exact ⟨v, r ++ ws, rfl, h1, RpL.append h2 t⟩
theorem RpL.take : ∀ {ds : List D} {vs : List V} (n : Nat), RpL K H ds vs → RpL K H (ds.take n) (vs.take n)
  | _, _, 0, _ => rfl
  | [], vs, n + 1, h => by cases h; rfl
  | d :: ds, vs, n + 1, h => by
    obtain ⟨v, r, rfl, h1, h2⟩ := h
    exact ⟨v, r.take n, rfl, h1, RpL.take n h2⟩
theorem RpL.drop : ∀ {ds : List D} {vs : List V} (n : Nat), RpL K H ds vs → RpL K H (ds.drop n) (vs.drop n)
  | _, _, 0, h => h
  | [], vs, n + 1, h => by cases h; rfl
  | d :: ds, vs, n + 1, h => by
    obtain ⟨v, r, rfl, h1, h2⟩ := h
    exact RpL.drop n h2
theorem RpL.set : ∀ {ds : List D} {vs : List V} (n : Nat) {d : D} {v : V}, RpL K H ds vs → Rp K H d v → RpL K H (ds.set n d) (vs.set n v)
  | [], vs, n, d, v, h, _ => by cases h; rfl
  | x :: ds, vs, 0, d, v, h, hd => by
    obtain ⟨v', r, rfl, h1, h2⟩ := h
    exact ⟨v, r, rfl, hd, h2⟩
  | x :: ds, vs, n + 1, d, v, h, hd => by
    obtain ⟨v', r, rfl, h1, h2⟩ := h
    exact ⟨v', r.set n v, rfl, h1, RpL.set n h2 hd⟩
theorem RpL.reverse : ∀ {ds : List D} {vs : List V}, RpL K H ds vs → RpL K H ds.reverse vs.reverse
  | [], vs, h => by cases h; rfl
  | d :: ds, vs, h => by
    obtain ⟨v, r, rfl, h1, h2⟩ := h
    rw [List.reverse_cons, List.reverse_cons]
    exact RpL.append (RpL.reverse h2) (.cons h1 .nil)
theorem RpL.dropLast {ds : List D} {vs : List V} (h : RpL K H ds vs) : RpL K H ds.dropLast vs.dropLast := by
  rw [List.dropLast_eq_take, List.dropLast_eq_take, h.length]
  exact h.take _
theorem RpL.ints : ∀ {ns : List Int} {vs : List V}, RpL K H (ns.map PyData.int) vs → vs = ns.map V.int
  | [], vs, h => h
  | n :: ns, vs, h => by
    obtain ⟨v, r, rfl, h1, h2⟩ := h
    rw [RpL.ints h2, (show v = V.int n from h1)]; rfl
theorem RpL.of_ints : ∀ (ns : List Int), RpL K H (ns.map PyData.int) (ns.map V.int)
  | [] => rfl
  | n :: ns => ⟨_, _, rfl, rfl, RpL.of_ints ns⟩
theorem RpL.bls : ∀ {ns : List Bool} {vs : List V}, RpL K H (ns.map PyData.bool) vs → vs = ns.map V.bl
  | [], vs, h => h
  | n :: ns, vs, h => by
    obtain ⟨v, r, rfl, h1, h2⟩ := h
    rw [RpL.bls h2, (show v = V.bl n from h1)]; rfl
theorem RpL.strs : ∀ {ns : List Str} {vs : List V}, RpL K H (ns.map PyData.str) vs → vs = ns.map V.str
  | [], vs, h => h
  | n :: ns, vs, h => by
    obtain ⟨v, r, rfl, h1, h2⟩ := h
    rw [RpL.strs h2, (show v = V.str n from h1)]; rfl
end

/-! ### without dicts: the library's own relation -/
mutual
def noDict : D → Bool
  | .dict _ => false
  | .list ds => noDictL ds
  | .tuple ds => noDictL ds
  | .none => true
  | .bool _ => true
  | .int _ => true
  | .str _ => true
def noDictL : List D → Bool
  | [] => true
  | d :: ds => noDict d && noDictL ds
end
section
variable {K : PySem.W.Frag} {H : Hp}
mutual
theorem dp_of : ∀ {d : D} {v : V}, d.canLay0 = true → Rp K H d v → Dp K H v d
  | .none, v, _, h => by cases h; exact .non
  | .bool b, v, _, h => by cases h; exact .bl b
  | .int i, v, _, h => by cases h; exact .int i
  | .str s, v, _, h => by cases h; exact .str s
  | .list ds, v, q, h => by
    obtain ⟨a, vs, rfl, s, l⟩ := h
    exact .lst s (dpL_of (by simpa [PyData.canLay0] using q) l)
  | .tuple ds, v, q, h => by
    obtain ⟨a, vs, rfl, s, l⟩ := h
    exact .tup s (dpL_of (by simpa [PyData.canLay0] using q) l)
  | .dict kvs, v, q, h => by simp [PyData.canLay0] at q
theorem dpL_of : ∀ {ds : List D} {vs : List V}, PyData.canLayAll0 ds = true → RpL K H ds vs → DpAll K H vs ds
  | [], vs, _, h => by cases h; exact .nil
  | d :: ds, vs, q, h => by
    obtain ⟨v, r, rfl, h1, h2⟩ := h
    have q' : d.canLay0 = true ∧ PyData.canLayAll0 ds = true := by simpa [PyData.canLayAll0] using q
    exact .cons (dp_of q'.1 h1) (dpL_of q'.2 h2)
end
end

/-! ### two heaps: the base part H0 of H, and how they grow -/
structure Ex2 (H0 H H0' H' : Hp) : Prop where
  a : Same H0 H0'
  b : Same H H'
  c : Same H0' H'
  d : ∀ p o, H p = some o → H0' p = H0 p
theorem Ex2.refl {H0 H : Hp} (s : Same H0 H) : Ex2 H0 H H0 H := ⟨Same.refl _, Same.refl _, s, fun _ _ _ => rfl⟩
theorem Ex2.trans {H0 H H1 H' H2 H'' : Hp} (x : Ex2 H0 H H1 H') (y : Ex2 H1 H' H2 H'') : Ex2 H0 H H2 H'' :=
  ⟨x.a.trans y.a, x.b.trans y.b, y.c, fun p o e => (y.d p o (x.b p o e)).trans (x.d p o e)⟩
theorem same_new {H : Hp} {p : Addr} (h : H p = none) (o : HO) : Same H (upd H p o) := fun b u q => by rw [upd_ne (ne_of_none q h)]; exact q
theorem same_upd {H0 H : Hp} {p : Addr} (s : Same H0 H) (h : H0 p = none) (o : HO) : Same H0 (upd H p o) := fun b u q => by rw [upd_ne (ne_of_none q h)]; exact s _ _ q
theorem same_both {H0 H : Hp} {p : Addr} (s : Same H0 H) (o : HO) : Same (upd H0 p o) (upd H p o) := fun b u q => by
  unfold upd at q ⊢
  split at q
  · rename_i e; rw [if_pos e]; exact q
  · rename_i e; rw [if_neg e]; exact s _ _ q
/-- a new object, in the base -/
theorem Ex2.new {H0 H : Hp} {p : Addr} (s : Same H0 H) (h : H p = none) (o : HO) : Ex2 H0 H (upd H0 p o) (upd H p o) :=
  ⟨same_new (s.free h) o, same_new h o, same_both s o, fun q u e => upd_ne (ne_of_none e h)⟩
/-- a new object, not in the base -/
theorem Ex2.out {H0 H : Hp} {p : Addr} (s : Same H0 H) (h : H p = none) (o : HO) : Ex2 H0 H H0 (upd H p o) :=
  ⟨Same.refl _, same_new h o, s.trans (same_new h o), fun _ _ _ => rfl⟩
/-- an object that lies outside of the base, added to it -/
theorem Ex2.add {H0 H H0' H' : Hp} (x : Ex2 H0 H H0' H') {p : Addr} {o : HO} (n : H p = none) (n0 : H0' p = none) (h : H' p = some o) : Ex2 H0 H (upd H0' p o) H' :=
  ⟨x.a.trans (same_new n0 o), x.b, fun b u q => by
    unfold upd at q
    split at q
    · rename_i e; cases q; rw [e]; exact h
    · exact x.c _ _ q, fun q u e => by rw [upd_ne (ne_of_none e n)]; exact x.d q u e⟩

/-! ### expressions -/
def RpV (K : PySem.W.Frag) (H : Hp) (σ : L2.St) (ev : Ev) : Prop := ev.length = σ.length ∧ ∀ (i : Nat) (d : D), ev[i]? = some (some d) → ∃ v, σ[i]? = some (some v) ∧ Rp K H d v
theorem RpV.mono {K : PySem.W.Frag} {H H' : Hp} {σ : L2.St} {ev : Ev} (e : Same H H') (h : RpV K H σ ev) : RpV K H' σ ev :=
  ⟨h.1, fun i d q => let ⟨v, a, b⟩ := h.2 i d q; ⟨v, a, b.mono e⟩⟩
/-- what is wanted of an exception by its class's name -/
def EX (mg : Str → Option Value) (E : XK) (x : String) (H : Hp) : Prop := ∀ C, mg (Str.ofString x) = some (.ref C) → E (.ref C) none H
structure Wh where
  K : PySem.W.Frag
  mg : Str → Option Value
  E : XK
def PostE (Z : Wh) (H0 H : Hp) (r : Rs D) (Q : VK) : Prop := match r with
  | .ok d => ∀ v H0' H', Ex2 H0 H H0' H' → Rp Z.K H0' d v → Q v H'
  | .exc x => ∀ H', Same H H' → EX Z.mg Z.E x H'
  | .bad => False
def PostB (Z : Wh) (H : Hp) (r : Rs Bool) (Q : Bool → Hp → Prop) : Prop := match r with
  | .ok b => ∀ H', Same H H' → Q b H'
  | .exc x => ∀ H', Same H H' → EX Z.mg Z.E x H'
  | .bad => False
def PostA (Z : Wh) (H0 H : Hp) (r : Rs (List D)) (Q : List V → Hp → Prop) : Prop := match r with
  | .ok ds => ∀ vs H0' H', Ex2 H0 H H0' H' → RpL Z.K H0' ds vs → Q vs H'
  | .exc x => ∀ H', Same H H' → EX Z.mg Z.E x H'
  | .bad => False
/-- a new list or dict at p, outside of the base -/
def OwA (K : PySem.W.Frag) (H0 H : Hp) (d : D) (p : Addr) : Prop :=
  (∃ ds vs, d = .list ds ∧ H p = some (.lst vs) ∧ RpL K H0 ds vs) ∨ ∃ ps, d = .dict (ddt ps) ∧ H p = some (.dT (dkv ps))
def PostO (Z : Wh) (H0 H : Hp) (r : Rs D) (Q : VK) : Prop := match r with
  | .ok d => ∀ p H0' H', Ex2 H0 H H0' H' → H p = none → H0' p = none → OwA Z.K H0' H' d p → Q (.ref p) H'
  | .exc x => ∀ H', Same H H' → EX Z.mg Z.E x H'
  | .bad => False
def tE (Z : Wh) (fe : Ev → Rs D) : TE := fun σ H Q => ∃ H0 ev, Same H0 H ∧ RpV Z.K H0 σ ev ∧ PostE Z H0 H (fe ev) Q
def tO (Z : Wh) (fe : Ev → Rs D) : TE := fun σ H Q => ∃ H0 ev, Same H0 H ∧ RpV Z.K H0 σ ev ∧ PostO Z H0 H (fe ev) Q
def tB (Z : Wh) (fe : Ev → Rs Bool) : TT := fun σ H Q => ∃ H0 ev, Same H0 H ∧ RpV Z.K H0 σ ev ∧ PostB Z H (fe ev) Q
def tA (Z : Wh) (fe : Ev → Rs (List D)) : TA := fun σ H Q => ∃ H0 ev, Same H0 H ∧ RpV Z.K H0 σ ev ∧ PostA Z H0 H (fe ev) Q
section
variable {Z : Wh} {H0 H H0' H' : Hp}
theorem PostE.step {r : Rs D} {Q : VK} (x : Ex2 H0 H H0' H') (h : PostE Z H0 H r Q) : PostE Z H0' H' r Q := by
  cases r with
  | ok d => exact fun v A B y q => h v A B (x.trans y) q
  | exc e => exact fun B y => h B (x.b.trans y)
  | bad => exact h
theorem PostO.step {r : Rs D} {Q : VK} (x : Ex2 H0 H H0' H') (h : PostO Z H0 H r Q) : PostO Z H0' H' r Q := by
  cases r with
  | ok d => exact fun p A B y n n0 q => h p A B (x.trans y) (x.b.free n) n0 q
  | exc e => exact fun B y => h B (x.b.trans y)
  | bad => exact h
theorem PostB.step {r : Rs Bool} {Q : Bool → Hp → Prop} (x : Same H H') (h : PostB Z H r Q) : PostB Z H' r Q := by
  cases r with
  | ok d => exact fun B y => h B (x.trans y)
  | exc e => exact fun B y => h B (x.trans y)
  | bad => exact h
theorem PostA.step {r : Rs (List D)} {Q : List V → Hp → Prop} (x : Ex2 H0 H H0' H') (h : PostA Z H0 H r Q) : PostA Z H0' H' r Q := by
  cases r with
  | ok d => exact fun v A B y q => h v A B (x.trans y) q
  | exc e => exact fun B y => h B (x.b.trans y)
  | bad => exact h
/-- the value is there already -/
theorem PostE.now {d : D} {Q : VK} {v : V} (s : Same H0 H) (h : PostE Z H0 H (.ok d) Q) (r : Rp Z.K H0 d v) : Q v H := h v H0 H (Ex2.refl s) r
theorem OwA.rp {K : PySem.W.Frag} {d : D} {p : Addr} (s : Same H0 H) (h : OwA K H0 H d p) (hH : ∃ o, H0' p = some o ∧ H p = some o) (s0 : Same H0 H0') : Rp K H0' d (.ref p) := by
  obtain ⟨o, e1, e2⟩ := hH
  rcases h with ⟨ds, vs, rfl, e, r⟩ | ⟨ps, rfl, e⟩
  · rw [e] at e2; cases e2
    exact ⟨p, vs, rfl, SqL.of e1, r.mono s0⟩
  · rw [e] at e2; cases e2
    exact .inl ⟨p, ps, rfl, e1, rfl⟩
theorem OwA.some {K : PySem.W.Frag} {d : D} {p : Addr} (h : OwA K H0 H d p) : ∃ o, H p = some o := by
  rcases h with ⟨ds, vs, rfl, e, r⟩ | ⟨ps, rfl, e⟩
  · exact ⟨_, e⟩
  · exact ⟨_, e⟩
/-- a new one is an expression's value like another -/
theorem PostE.toO {r : Rs D} {Q : VK} (h : PostE Z H0 H r Q) : PostO Z H0 H r Q := by
  cases r with
  | ok d =>
    intro p A B y n n0 q
    obtain ⟨o, e⟩ := q.some
    refine h (.ref p) (upd A p o) B (y.add n n0 e) ?_
    exact q.rp y.c ⟨o, upd_same, e⟩ (same_new n0 o)
  | exc e => exact h
  | bad => exact h
end
theorem PE.weak {X : Cx} {e : Expr} {t t' : TE} (h : PE X e t) (w : ∀ σ H Q, t' σ H Q → t σ H Q) : PE X e t' := ⟨fun pins s σ H Q I q => h.run pins s σ H Q I (w σ H Q q)⟩
theorem PT.weak {X : Cx} {e : Expr} {t t' : TT} (h : PT X e t) (w : ∀ σ H Q, t' σ H Q → t σ H Q) : PT X e t' := ⟨fun pins s σ H Q I q => h.run pins s σ H Q I (w σ H Q q)⟩
theorem PW.weak {X : Cx} {e : Expr} {t t' : TT} (h : PW X e t) (w : ∀ σ H Q, t' σ H Q → t σ H Q) : PW X e t' := ⟨fun wh pins s σ H Q I q => h.run wh pins s σ H Q I (w σ H Q q)⟩
theorem PA.weak {X : Cx} {e : List Expr} {t t' : TA} (h : PA X e t) (w : ∀ σ H Q, t' σ H Q → t σ H Q) : PA X e t' := ⟨fun pos pins s σ H Q I q => h.run pos pins s σ H Q I (w σ H Q q)⟩
theorem PS.weak {X : Cx} {e : Stmt} {t t' : TS} (h : PS X e t) (w : ∀ D σ H, t' D σ H → t D σ H) : PS X e t' := ⟨fun pins s σ H D I q => h.run pins s σ H D I (w D σ H q)⟩
theorem PSs.weak {X : Cx} {e : List Stmt} {t t' : TS} (h : PSs X e t) (w : ∀ D σ H, t' D σ H → t D σ H) : PSs X e t' := ⟨fun pins s σ H D I q => h.run pins s σ H D I (w D σ H q)⟩
abbrev zOf (X : Cx) (E : XK) : Wh := ⟨X.K, X.mg, E⟩
abbrev SE (X : Cx) (E : XK) (e : Expr) (fe : Ev → Rs D) : Prop := PE X e (tE (zOf X E) fe)
abbrev SO (X : Cx) (E : XK) (e : Expr) (fe : Ev → Rs D) : Prop := PE X e (tO (zOf X E) fe)
abbrev SB (X : Cx) (E : XK) (e : Expr) (fe : Ev → Rs Bool) : Prop := PT X e (tB (zOf X E) fe)
abbrev SW (X : Cx) (E : XK) (e : Expr) (fe : Ev → Rs Bool) : Prop := PW X e (tB (zOf X E) fe)
abbrev SA (X : Cx) (E : XK) (es : List Expr) (fe : Ev → Rs (List D)) : Prop := PA X es (tA (zOf X E) fe)
theorem SO.e {X : Cx} {E : XK} {e : Expr} {fe : Ev → Rs D} (h : SO X E e fe) : SE X E e fe := PE.weak h fun σ H Q ⟨H0, ev, s, r, p⟩ => ⟨H0, ev, s, r, p.toO⟩

/-! ### the pure combinators of expressions -/
def eV (i : Nat) : Ev → Rs D := fun ev => match ev[i]? with | some (some d) => .ok d | _ => .bad
def eC (d : D) : Ev → Rs D := fun _ => .ok d
def e2 (op : D → D → Rs D) (fa fb : Ev → Rs D) : Ev → Rs D := fun ev => (fa ev).bind fun a => (fb ev).bind fun b => op a b
def e1 (op : D → Rs D) (fa : Ev → Rs D) : Ev → Rs D := fun ev => (fa ev).bind op
def aN : Ev → Rs (List D) := fun _ => .ok []
def aC (fa : Ev → Rs D) (fr : Ev → Rs (List D)) : Ev → Rs (List D) := fun ev => (fa ev).bind fun a => (fr ev).bind fun r => .ok (a :: r)
def eA (op : List D → Rs D) (fa : Ev → Rs (List D)) : Ev → Rs D := fun ev => (fa ev).bind op
def asB : D → Rs Bool
  | .bool b => .ok b
  | _ => .bad
def bE (fe : Ev → Rs D) : Ev → Rs Bool := fun ev => (fe ev).bind asB
def bAnd (fa fb : Ev → Rs Bool) : Ev → Rs Bool := fun ev => (fa ev).bind fun a => if a = true then fb ev else .ok false
def bOr (fa fb : Ev → Rs Bool) : Ev → Rs Bool := fun ev => (fa ev).bind fun a => if a = true then .ok true else fb ev
def bNot (fa : Ev → Rs Bool) : Ev → Rs Bool := fun ev => (fa ev).bind fun a => .ok (!a)
def eAnd (fa fb : Ev → Rs D) : Ev → Rs D := fun ev => (fa ev).bind fun a => (asB a).bind fun a => if a = true then fb ev else .ok (.bool false)
def eOr (fa fb : Ev → Rs D) : Ev → Rs D := fun ev => (fa ev).bind fun a => (asB a).bind fun a => if a = true then .ok (.bool true) else fb ev
def eNot (fa : Ev → Rs D) : Ev → Rs D := fun ev => (fa ev).bind fun a => (asB a).bind fun a => .ok (.bool (!a))

/-- an operation on values -/
def OpS (Z : Wh) (r : R2) (op : D → D → Rs D) : Prop := ∀ (H0 H : Hp) (x y : V) (a b : D) (Q : VK), Same H0 H → Rp Z.K H0 a x → Rp Z.K H0 b y → PostE Z H0 H (op a b) Q → r x y H Q
def OpO (Z : Wh) (r : R2) (op : D → D → Rs D) : Prop := ∀ (H0 H : Hp) (x y : V) (a b : D) (Q : VK), Same H0 H → Rp Z.K H0 a x → Rp Z.K H0 b y → PostO Z H0 H (op a b) Q → r x y H Q
def CaS (Z : Wh) (r : List V → Hp → VK → Prop) (op : List D → Rs D) : Prop := ∀ (H0 H : Hp) (xs : List V) (as : List D) (Q : VK), Same H0 H → RpL Z.K H0 as xs → PostE Z H0 H (op as) Q → r xs H Q
def CaO (Z : Wh) (r : List V → Hp → VK → Prop) (op : List D → Rs D) : Prop := ∀ (H0 H : Hp) (xs : List V) (as : List D) (Q : VK), Same H0 H → RpL Z.K H0 as xs → PostO Z H0 H (op as) Q → r xs H Q
section
variable {X : Cx} {E : XK} {a b e : Expr} {es rest : List Expr} {fa fb fe : Ev → Rs D} {fr : Ev → Rs (List D)} {ga gb : Ev → Rs Bool} {pos : Pos}
/-- two parts, then something -/
theorem two {σ : L2.St} {H : Hp} {Z : Wh} {α : Type} {op : D → D → Rs α} {R : V → V → Hp → Prop} {P : Hp → Hp → Rs α → Prop} (h : ∃ H0 ev, Same H0 H ∧ RpV Z.K H0 σ ev ∧ P H0 H ((fa ev).bind fun a => (fb ev).bind fun b => op a b))
    (step : ∀ H0 H H0' H' r, Ex2 H0 H H0' H' → P H0 H r → P H0' H' r) (hexc : ∀ H0 H x, P H0 H (.exc x) → ∀ H', Same H H' → EX Z.mg Z.E x H') (hbad : ∀ H0 H, ¬ P H0 H .bad)
    (fin : ∀ H0 H x y a b, Same H0 H → Rp Z.K H0 a x → Rp Z.K H0 b y → P H0 H (op a b) → R x y H) : tE Z fa σ H fun x H1 => tE Z fb σ H1 fun y H2 => R x y H2 := by
  obtain ⟨H0, ev, s, rv, p⟩ := h
  refine ⟨H0, ev, s, rv, ?_⟩
  cases ea : fa ev with
  | bad => rw [ea] at p; exact (hbad _ _ p).elim
  | exc x => rw [ea] at p; exact hexc _ _ _ p
  | ok a =>
    rw [ea] at p
    intro v H1 H' x1 r1
    refine ⟨H1, ev, x1.c, rv.mono x1.a, ?_⟩
    have p' := step _ _ _ _ _ x1 p
    simp only [Rs.ok_bind] at p'
    cases eb : fb ev with
    | bad => rw [eb] at p'; exact (hbad _ _ p').elim
    | exc x => rw [eb] at p'; exact hexc _ _ _ p'
    | ok b =>
      rw [eb] at p'
      intro u H2 H'' x2 r2
      exact fin H2 H'' v u a b x2.c (r1.mono x2.a) r2 (step _ _ _ _ _ x2 p')
theorem PostE.two' {op : D → D → Rs D} {Z : Wh} {r : R2} (ho : OpS Z r op) {σ : L2.St} {H : Hp} {Q : VK} (h : tE Z (e2 op fa fb) σ H Q) : tOp r (tE Z fa) (tE Z fb) σ H Q :=
  two (P := fun H0 H r => PostE Z H0 H r Q) h (fun _ _ _ _ _ x p => p.step x) (fun _ _ _ p => p) (fun _ _ p => p) fun H0 H x y a b s r1 r2 p => ho H0 H x y a b Q s r1 r2 p
theorem PostO.two' {op : D → D → Rs D} {Z : Wh} {r : R2} (ho : OpO Z r op) {σ : L2.St} {H : Hp} {Q : VK} (h : tO Z (e2 op fa fb) σ H Q) : tOp r (tE Z fa) (tE Z fb) σ H Q :=
  two (P := fun H0 H r => PostO Z H0 H r Q) h (fun _ _ _ _ _ x p => p.step x) (fun _ _ _ p => p) (fun _ _ p => p) fun H0 H x y a b s r1 r2 p => ho H0 H x y a b Q s r1 r2 p
theorem se_op {o : Operator} {r : R2} {op : D → D → Rs D} (h : OpR X (binaryOp o) r) (ho : OpS (zOf X E) r op) (ha : SE X E a fa) (hb : SE X E b fb) : SE X E (.BinOp a o b pos) (e2 op fa fb) :=
  PE.weak (pe_op h ha hb) fun _ _ _ q => PostE.two' ho q
theorem so_op {o : Operator} {r : R2} {op : D → D → Rs D} (h : OpR X (binaryOp o) r) (ho : OpO (zOf X E) r op) (ha : SE X E a fa) (hb : SE X E b fb) : SO X E (.BinOp a o b pos) (e2 op fa fb) :=
  PE.weak (pe_op h ha hb) fun _ _ _ q => PostO.two' ho q
theorem se_cmp {o : CmpOp} {r : R2} {op : D → D → Rs D} (h : OpR X (compareOp o) r) (ho : OpS (zOf X E) r op) (ha : SE X E a fa) (hb : SE X E b fb) (hm : behindInMarks o b = false) : SE X E (.Compare a [o] [b] pos) (e2 op fa fb) :=
  PE.weak (pe_cmpR h ha hb hm) fun _ _ _ q => PostE.two' ho q
theorem se_ix {r : R2} {op : D → D → Rs D} (h : IxR X r) (ho : OpS (zOf X E) r op) (ha : SE X E a fa) (hb : SE X E b fb) (hs : PlainIx b) : SE X E (.Subscript a b pos) (e2 op fa fb) :=
  PE.weak (pe_ix h ha hb hs) fun _ _ _ q => PostE.two' ho q
theorem tB_of {Z : Wh} {σ : L2.St} {H : Hp} {Q : Bool → Hp → Prop} (h : tB Z (bE fe) σ H Q) : tE Z fe σ H fun x H' => ∃ k, x = .bl k ∧ Q k H' := by
  obtain ⟨H0, ev, s, rv, p⟩ := h
  refine ⟨H0, ev, s, rv, ?_⟩
  unfold bE at p
  cases ea : fe ev with
  | bad => rw [ea] at p; exact p
  | exc x => rw [ea] at p; exact p
  | ok d =>
    rw [ea] at p
    intro v H1 H' x1 r1
    cases d with
    | bool k => exact ⟨k, r1, p H' x1.b⟩
    | none => exact p.elim
    | int _ => exact p.elim
    | str _ => exact p.elim
    | list _ => exact p.elim
    | tuple _ => exact p.elim
    | dict _ => exact p.elim
theorem sb_cmp {o : CmpOp} {r : R2} {op : D → D → Rs D} (h : OpR X (compareOp o) r) (ho : OpS (zOf X E) r op) (ha : SE X E a fa) (hb : SE X E b fb) (hm : behindInMarks o b = false) : SB X E (.Compare a [o] [b] pos) (bE (e2 op fa fb)) :=
  PT.weak (pt_cmpR h ha hb hm) fun σ H Q q => PostE.two' ho (tB_of q)
theorem sb_val (h : SE X E e fe) (he : ∀ whole, isTrue e X.env whole = (do let v ← whole; standAt e.pos; holding [v] (truthy v)) := by intro _; rfl) : SB X E e (bE fe) :=
  PT.weak (pt_val h he) fun σ H Q q => tB_of q
theorem se_v (i : Nat) {x : Str} (hN : X.N[i]? = some x := by rfl) (hv : Vis X.env.scope x := by first | exact Or.inl rfl | exact Or.inr (Or.inl rfl) | exact Or.inr (Or.inr rfl)) (hd : (x == ("__debug__" : Str)) = false := by decide)
    (hcd : (x == ("__classdict__" : Str)) = false := by decide) : SE X E (.Name x pos) (eV i) := by
  refine PE.weak (pe_var hN hv hd hcd) fun σ H Q q => ?_
  obtain ⟨H0, ev, s, rv, p⟩ := q
  unfold eV at p
  cases ea : ev[i]? with
  | none => rw [ea] at p; exact p.elim
  | some o =>
    cases o with
    | none => rw [ea] at p; exact p.elim
    | some d =>
      rw [ea] at p
      obtain ⟨v, e1, r⟩ := rv.2 i d ea
      exact ⟨v, e1, p.now s r⟩
theorem PostE.c {Z : Wh} {σ : L2.St} {H : Hp} {Q : VK} {d : D} {v : V} (r : ∀ H0, Rp Z.K H0 d v) (h : tE Z (eC d) σ H Q) : tC v σ H Q := by
  obtain ⟨H0, ev, s, rv, p⟩ := h
  exact p.now s (r H0)
theorem se_int {i : Int} {j} : SE X E (.Constant (.int i) j pos) (eC (.int i)) := PE.weak pe_int fun _ _ _ q => PostE.c (d := .int i) (v := .int i) (fun _ => rfl) q
theorem se_str {i : Str} {j} : SE X E (.Constant (.str i) j pos) (eC (.str i)) := PE.weak pe_str fun _ _ _ q => PostE.c (d := .str i) (v := .str i) (fun _ => rfl) q
theorem se_bl {i : Bool} {j} : SE X E (.Constant (.bool i) j pos) (eC (.bool i)) := PE.weak pe_bl fun _ _ _ q => PostE.c (d := .bool i) (v := .bl i) (fun _ => rfl) q
theorem se_non {j} : SE X E (.Constant .none j pos) (eC .none) := PE.weak pe_non fun _ _ _ q => PostE.c (d := .none) (v := .non) (fun _ => rfl) q
theorem se_globS {x : Str} {z : Str} {t : Tok} (hg : Gl X x) (hm : X.mg x = some (.str z t)) (hd : (x == ("__debug__" : Str)) = false := by decide) : SE X E (.Name x pos) (eC (.str z)) :=
  PE.weak (pe_glob (v := .str z) hg hm ⟨_, rfl⟩ hd) fun _ _ _ q => PostE.c (d := .str z) (v := .str z) (fun _ => rfl) q
theorem se_globI {x : Str} {z : Int} {t : Tok} (hg : Gl X x) (hm : X.mg x = some (.int z t)) (hd : (x == ("__debug__" : Str)) = false := by decide) : SE X E (.Name x pos) (eC (.int z)) :=
  PE.weak (pe_glob (v := .int z) hg hm ⟨_, rfl⟩ hd) fun _ _ _ q => PostE.c (d := .int z) (v := .int z) (fun _ => rfl) q
theorem sa_nil : SA X E [] aN := PA.weak pa_nil fun σ H Q ⟨H0, ev, s, rv, p⟩ => p [] H0 H (Ex2.refl s) .nil
theorem sa_cons (ha : SE X E e fe) (hr : SA X E es fr) (hs : starEach (e :: es) X.env = (false, eval e X.env) :: starEach es X.env := by rfl) : SA X E (e :: es) (aC fe fr) := by
  refine PA.weak (pa_cons ha hr hs) fun σ H Q ⟨H0, ev, s, rv, p⟩ => ?_
  refine ⟨H0, ev, s, rv, ?_⟩
  unfold aC at p
  cases ea : fe ev with
  | bad => rw [ea] at p; exact p
  | exc x => rw [ea] at p; exact p
  | ok a =>
    rw [ea] at p
    intro v H1 H' x1 r1
    refine ⟨H1, ev, x1.c, rv.mono x1.a, ?_⟩
    have p' := p.step x1
    simp only [Rs.ok_bind] at p'
    cases eb : fr ev with
    | bad => rw [eb] at p'; exact p'
    | exc x => rw [eb] at p'; exact p'
    | ok ds =>
      rw [eb] at p'
      intro vs H2 H'' x2 r2
      exact p' (v :: vs) H2 H'' x2 (.cons (r1.mono x2.a) r2)
theorem tA_of {Z : Wh} {σ : L2.St} {H : Hp} {α : Type} {op : List D → Rs α} {R : List V → Hp → Prop} {P : Hp → Hp → Rs α → Prop} (h : ∃ H0 ev, Same H0 H ∧ RpV Z.K H0 σ ev ∧ P H0 H ((fr ev).bind op))
    (step : ∀ H0 H H0' H' r, Ex2 H0 H H0' H' → P H0 H r → P H0' H' r) (hexc : ∀ H0 H x, P H0 H (.exc x) → ∀ H', Same H H' → EX Z.mg Z.E x H') (hbad : ∀ H0 H, ¬ P H0 H .bad)
    (fin : ∀ H0 H xs as, Same H0 H → RpL Z.K H0 as xs → P H0 H (op as) → R xs H) : tA Z fr σ H R := by
  obtain ⟨H0, ev, s, rv, p⟩ := h
  refine ⟨H0, ev, s, rv, ?_⟩
  cases ea : fr ev with
  | bad => rw [ea] at p; exact (hbad _ _ p).elim
  | exc x => rw [ea] at p; exact hexc _ _ _ p
  | ok as =>
    rw [ea] at p
    intro vs H1 H' x1 r1
    exact fin H1 H' vs as x1.c r1 (step _ _ _ _ _ x1 p)
theorem se_tup {k} (h : SA X E es fr) : SE X E (.Tuple es k pos) (eA (fun ds => if ds.length ≤ 1000 then .ok (.tuple ds) else .bad) fr) := by
  refine PE.weak (pe_tup h) fun σ H Q q => ?_
  refine tA_of (P := fun H0 H r => PostE (zOf X E) H0 H r Q) q (fun _ _ _ _ _ x p => p.step x) (fun _ _ _ p => p) (fun _ _ p => p) fun H0 H xs as s r p => ?_
  by_cases hl : as.length ≤ 1000
  · rw [if_pos hl] at p
    refine ⟨by rw [r.length]; exact Nat.le_of_lt (small1000 hl), fun t nt => ?_⟩
    exact p (.ref t) _ _ (Ex2.new s nt _) ⟨t, xs, rfl, SqT.of upd_same, r.mono (same_new (s.free nt) _)⟩
  · rw [if_neg hl] at p; exact p.elim
theorem so_lst (h : SA X E es fr) : SO X E (.List es pos) (eA (fun ds => if ds.length ≤ 1000 then .ok (.list ds) else .bad) fr) := by
  refine PE.weak (pe_lst h) fun σ H Q q => ?_
  refine tA_of (P := fun H0 H r => PostO (zOf X E) H0 H r Q) q (fun _ _ _ _ _ x p => p.step x) (fun _ _ _ p => p) (fun _ _ p => p) fun H0 H xs as s r p => ?_
  by_cases hl : as.length ≤ 1000
  · rw [if_pos hl] at p
    refine ⟨by rw [r.length]; exact Nat.le_of_lt (small1000 hl), fun t nt => ?_⟩
    exact p t _ _ (Ex2.out s nt _) nt (s.free nt) (.inl ⟨as, xs, rfl, upd_same, r⟩)
  · rw [if_neg hl] at p; exact p.elim
theorem se_callB {x : Str} {p : Pos} {id : String} {r : List V → Hp → VK → Prop} {op : List D → Rs D} (hc : CallR X (.builtin id) r) (ho : CaS (zOf X E) r op) (hm : X.mg x = none) (hv : bootBuiltins x = some (.builtin id)) (ha : SA X E (e :: es) fr) (hg : Gl X x := by rfl)
    (hn : x ≠ "__name__" := by decide) (hdb : (x == ("__debug__" : Str)) = false := by decide) (he : starEach (e :: es) X.env = (false, eval e X.env) :: starEach es X.env := by rfl) (hpl : (backTo pos (starEach es X.env)).any (·.1) = false := by rfl) :
    SE X E (.Call (.Name x p) (e :: es) [] pos) (eA op fr) := by
  refine PE.weak (pe_callB hc hg hm hv ha hn hdb he hpl) fun σ H Q q => ?_
  exact tA_of (P := fun H0 H r => PostE (zOf X E) H0 H r Q) q (fun _ _ _ _ _ x p => p.step x) (fun _ _ _ p => p) (fun _ _ p => p) fun H0 H xs as s r p => ho H0 H xs as Q s r p
theorem se_callT {x : Str} {p : Pos} {T : String} {r : List V → Hp → VK → Prop} {op : List D → Rs D} (hc : CallR X (.type T) r) (ho : CaS (zOf X E) r op) (hm : X.mg x = none) (hv : bootBuiltins x = some (.type T)) (ha : SA X E (e :: es) fr) (hg : Gl X x := by rfl)
    (hn : x ≠ "__name__" := by decide) (hdb : (x == ("__debug__" : Str)) = false := by decide) (he : starEach (e :: es) X.env = (false, eval e X.env) :: starEach es X.env := by rfl) (hpl : (backTo pos (starEach es X.env)).any (·.1) = false := by rfl) :
    SE X E (.Call (.Name x p) (e :: es) [] pos) (eA op fr) := by
  refine PE.weak (pe_callTy hc hg hm hv ha hn hdb he hpl) fun σ H Q q => ?_
  exact tA_of (P := fun H0 H r => PostE (zOf X E) H0 H r Q) q (fun _ _ _ _ _ x p => p.step x) (fun _ _ _ p => p) (fun _ _ p => p) fun H0 H xs as s r p => ho H0 H xs as Q s r p
theorem so_callT {x : Str} {p : Pos} {T : String} {r : List V → Hp → VK → Prop} {op : List D → Rs D} (hc : CallR X (.type T) r) (ho : CaO (zOf X E) r op) (hm : X.mg x = none) (hv : bootBuiltins x = some (.type T)) (ha : SA X E (e :: es) fr) (hg : Gl X x := by rfl)
    (hn : x ≠ "__name__" := by decide) (hdb : (x == ("__debug__" : Str)) = false := by decide) (he : starEach (e :: es) X.env = (false, eval e X.env) :: starEach es X.env := by rfl) (hpl : (backTo pos (starEach es X.env)).any (·.1) = false := by rfl) :
    SO X E (.Call (.Name x p) (e :: es) [] pos) (eA op fr) := by
  refine PE.weak (pe_callTy hc hg hm hv ha hn hdb he hpl) fun σ H Q q => ?_
  exact tA_of (P := fun H0 H r => PostO (zOf X E) H0 H r Q) q (fun _ _ _ _ _ x p => p.step x) (fun _ _ _ p => p) (fun _ _ p => p) fun H0 H xs as s r p => ho H0 H xs as Q s r p
/-! tests -/
theorem sw_one {op} {w : Ev → Rs Bool} (h : SB X E a w) (hop : op = BoolOp.And ∨ op = BoolOp.Or) : SW X E (.BoolOp op [a] pos) w := by
  rcases hop with rfl | rfl
  · exact pw_and1 h
  · exact pw_or1 h
theorem tB_seq {Z : Wh} {σ : L2.St} {H : Hp} {Q : Bool → Hp → Prop} {k : Bool → Ev → Rs Bool} {R : Bool → Hp → Prop} (h : tB Z (fun ev => (ga ev).bind fun a => k a ev) σ H Q)
    (fin : ∀ c H1, tB Z (k c) σ H1 Q → R c H1) : tB Z ga σ H R := by
  obtain ⟨H0, ev, s, rv, p⟩ := h
  refine ⟨H0, ev, s, rv, ?_⟩
  simp only at p
  cases ea : ga ev with
  | bad => rw [ea] at p; exact p
  | exc x => rw [ea] at p; exact p
  | ok c =>
    rw [ea] at p
    intro H' s'
    exact fin c H' ⟨H0, ev, s.trans s', rv, p.step s'⟩
theorem sw_and (ha : SB X E a ga) (hb : SW X E (.BoolOp .And (b :: rest) pos) gb) : SW X E (.BoolOp .And (a :: b :: rest) pos) (bAnd ga gb) := by
  refine PW.weak (pw_and ha hb) fun σ H Q q => tB_seq (k := fun a ev => if a = true then gb ev else .ok false) q fun c H1 q1 => ?_
  cases c with
  | true => exact q1
  | false =>
    obtain ⟨H0, ev, s, rv, p⟩ := q1
    exact p H1 (Same.refl _)
theorem sw_or (ha : SB X E a ga) (hb : SW X E (.BoolOp .Or (b :: rest) pos) gb) : SW X E (.BoolOp .Or (a :: b :: rest) pos) (bOr ga gb) := by
  refine PW.weak (pw_or ha hb) fun σ H Q q => tB_seq (k := fun a ev => if a = true then .ok true else gb ev) q fun c H1 q1 => ?_
  cases c with
  | false => exact q1
  | true =>
    obtain ⟨H0, ev, s, rv, p⟩ := q1
    exact p H1 (Same.refl _)
theorem sb_not (ha : SB X E a ga) : SB X E (.UnaryOp .Not a pos) (bNot ga) := by
  refine PT.weak (pt_not ha) fun σ H Q q => tB_seq (k := fun a ev => .ok (!a)) q fun c H1 q1 => ?_
  obtain ⟨H0, ev, s, rv, p⟩ := q1
  exact p H1 (Same.refl _)
theorem asB_ok {d : D} {k : Bool} (h : asB d = .ok k) : d = .bool k := by
  cases d <;> simp [asB] at h
  exact congrArg _ h
theorem tE_seqB {Z : Wh} {σ : L2.St} {H : Hp} {Q : VK} {k : Bool → Ev → Rs D} {R : Bool → Hp → Prop} (h : tE Z (fun ev => (fa ev).bind fun a => (asB a).bind fun a => k a ev) σ H Q)
    (fin : ∀ c H1, tE Z (k c) σ H1 Q → R c H1) : tE Z fa σ H fun x H1 => ∃ c, x = .bl c ∧ R c H1 := by
  obtain ⟨H0, ev, s, rv, p⟩ := h
  refine ⟨H0, ev, s, rv, ?_⟩
  simp only at p
  cases ea : fa ev with
  | bad => rw [ea] at p; exact p
  | exc x => rw [ea] at p; exact p
  | ok d =>
    rw [ea] at p
    intro v H1 H' x1 r1
    cases eb : asB d with
    | bad => rw [Rs.ok_bind, eb] at p; exact p.elim
    | exc x => cases d <;> simp [asB] at eb
    | ok c =>
      rw [Rs.ok_bind, eb] at p
      have := asB_ok eb
      subst this
      exact ⟨c, r1, fin c H' ⟨H1, ev, x1.c, rv.mono x1.a, p.step x1⟩⟩
theorem se_one {op} (h : SE X E a fa) : SE X E (.BoolOp op [a] pos) fa := pe_one h
theorem se_and (ha : SE X E a fa) (hb : SE X E (.BoolOp .And (b :: rest) pos) fb) : SE X E (.BoolOp .And (a :: b :: rest) pos) (eAnd fa fb) := by
  refine PE.weak (pe_and ha hb) fun σ H Q q => tE_seqB (k := fun a ev => if a = true then fb ev else .ok (.bool false)) q fun c H1 q1 => ?_
  cases c with
  | true => exact q1
  | false =>
    obtain ⟨H0, ev, s, rv, p⟩ := q1
    exact PostE.now s p rfl
theorem se_or (ha : SE X E a fa) (hb : SE X E (.BoolOp .Or (b :: rest) pos) fb) : SE X E (.BoolOp .Or (a :: b :: rest) pos) (eOr fa fb) := by
  refine PE.weak (pe_or ha hb) fun σ H Q q => tE_seqB (k := fun a ev => if a = true then .ok (.bool true) else fb ev) q fun c H1 q1 => ?_
  cases c with
  | false => exact q1
  | true =>
    obtain ⟨H0, ev, s, rv, p⟩ := q1
    exact PostE.now s p rfl
theorem se_not (ha : SE X E a fa) : SE X E (.UnaryOp .Not a pos) (eNot fa) := by
  refine PE.weak (pe_not ha) fun σ H Q q => tE_seqB (k := fun a ev => .ok (.bool (!a))) q fun c H1 q1 => ?_
  obtain ⟨H0, ev, s, rv, p⟩ := q1
  exact PostE.now s p rfl
/-- a < b < c -/
def eCh (op op' : D → D → Rs D) (fa fb fc : Ev → Rs D) : Ev → Rs D := fun ev => (fa ev).bind fun a => (fb ev).bind fun b => (op a b).bind fun z => (asB z).bind fun k => if k = true then (fc ev).bind fun c => op' b c else .ok (.bool false)
/-- an operation that makes nothing and answers a bool -/
def OpB (Z : Wh) (r : R2) (op : D → D → Rs D) : Prop := ∀ (H0 H : Hp) (x y : V) (a b d : D) (Q : VK), Same H0 H → Rp Z.K H0 a x → Rp Z.K H0 b y → op a b = .ok d → (∀ v, Rp Z.K H0 d v → Q v H) → r x y H Q
theorem chain_of {Z : Wh} {r r' : R2} {op op' : D → D → Rs D} {fc : Ev → Rs D} (ho : OpS Z r op) (ho' : OpS Z r' op') (hne : ∀ a b x, op a b ≠ .exc x) {σ : L2.St} {H : Hp} {Q : VK} (h : tE Z (eCh op op' fa fb fc) σ H Q) :
    tChain r r' (tE Z fa) (tE Z fb) (tE Z fc) σ H Q := by
  obtain ⟨H0, ev, s, rv, p⟩ := h
  unfold eCh at p
  refine ⟨H0, ev, s, rv, ?_⟩
  cases ea : fa ev with
  | bad => rw [ea] at p; exact p
  | exc x => rw [ea] at p; exact p
  | ok a =>
    rw [ea] at p
    intro v H1 H' x1 r1
    refine ⟨H1, ev, x1.c, rv.mono x1.a, ?_⟩
    have p := p.step x1
    simp only [Rs.ok_bind] at p
    cases eb : fb ev with
    | bad => rw [eb] at p; exact p
    | exc x => rw [eb] at p; exact p
    | ok b =>
      rw [eb] at p
      intro u H2 H'' x2 r2
      have p := p.step x2
      simp only [Rs.ok_bind] at p
      cases ez : op a b with
      | bad => rw [ez] at p; exact p.elim
      | exc x => exact (hne _ _ _ ez).elim
      | ok z =>
        rw [ez] at p
        refine ho H2 H'' v u a b _ x2.c (r1.mono x2.a) r2 ?_
        rw [ez]
        intro w H3 H3' x3 r3
        have p3 := p.step x3
        clear p
        simp only [Rs.ok_bind] at p3
        cases ek : asB z with
        | bad => rw [ek] at p3; exact p3.elim
        | exc x => cases z <;> simp [asB] at ek
        | ok k =>
          rw [ek] at p3
          have := asB_ok ek
          subst this
          refine ⟨k, r3, ?_⟩
          cases k with
          | false =>
            rw [if_neg Bool.false_ne_true]
            exact PostE.now (d := .bool false) x3.c p3 rfl
          | true =>
            rw [if_pos rfl]
            refine ⟨H3, ev, x3.c, rv.mono ((x1.a.trans x2.a).trans x3.a), ?_⟩
            simp only [Rs.ok_bind, if_true] at p3
            cases ec : fc ev with
            | bad => rw [ec] at p3; exact p3
            | exc x => rw [ec] at p3; exact p3
            | ok c =>
              rw [ec] at p3
              intro w' H4 H4' x4 r4
              exact ho' H4 H4' u w' b c Q x4.c (r2.mono (x3.a.trans x4.a)) r4 (p3.step x4)
end
end Sk

namespace Sk
open PySem PySem.Spec PyProof.Rows L2

/-! ### lists of one kind -/
def intsOf : List D → Option (List Int)
  | [] => some []
  | .int i :: r => (intsOf r).map (i :: ·)
  | _ :: _ => none
def strsOf : List D → Option (List Str)
  | [] => some []
  | .str i :: r => (strsOf r).map (i :: ·)
  | _ :: _ => none
def boolsOf : List D → Option (List Bool)
  | [] => some []
  | .bool i :: r => (boolsOf r).map (i :: ·)
  | _ :: _ => none
theorem intsOf_some : ∀ {ds : List D} {ns : List Int}, intsOf ds = some ns → ds = ns.map .int
  | [], ns, h => by simp [intsOf] at h; subst h; rfl
  | d :: r, ns, h => by
    cases d <;> simp [intsOf] at h
    obtain ⟨ms, e, rfl⟩ := h
    rw [intsOf_some e]; rfl
theorem strsOf_some : ∀ {ds : List D} {ns : List Str}, strsOf ds = some ns → ds = ns.map .str
  | [], ns, h => by simp [strsOf] at h; subst h; rfl
  | d :: r, ns, h => by
    cases d <;> simp [strsOf] at h
    obtain ⟨ms, e, rfl⟩ := h
    rw [strsOf_some e]; rfl
theorem boolsOf_some : ∀ {ds : List D} {ns : List Bool}, boolsOf ds = some ns → ds = ns.map .bool
  | [], ns, h => by simp [boolsOf] at h; subst h; rfl
  | d :: r, ns, h => by
    cases d <;> simp [boolsOf] at h
    obtain ⟨ms, e, rfl⟩ := h
    rw [boolsOf_some e]; rfl
theorem intsOf_map : ∀ ns : List Int, intsOf (ns.map .int) = some ns
  | [] => rfl
  | n :: r => by simp [intsOf, intsOf_map r]
theorem strsOf_map : ∀ ns : List Str, strsOf (ns.map .str) = some ns
  | [] => rfl
  | n :: r => by simp [strsOf, strsOf_map r]
theorem boolsOf_map : ∀ ns : List Bool, boolsOf (ns.map .bool) = some ns
  | [] => rfl
  | n :: r => by simp [boolsOf, boolsOf_map r]

/-! ### the pure operations -/
def opAdd : D → D → Rs D
  | .int i, .int j => .ok (.int (i + j))
  | .str x, .str y => if x.length + y.length ≤ 100000 then .ok (.str (x ++ y)) else .bad
  | _, _ => .bad
def opSub : D → D → Rs D
  | .int i, .int j => .ok (.int (i - j))
  | _, _ => .bad
def cmul (i j : Int) : Bool := decide ((-(2 ^ 64) < i ∧ i < 2 ^ 64) ∨ (-(2 ^ 64) < j ∧ j < 2 ^ 64))
def opMul : D → D → Rs D
  | .int i, .int j => if cmul i j = true then .ok (.int (i * j)) else .bad
  | _, _ => .bad
def opDiv : D → D → Rs D
  | .int i, .int j => if 0 < j ∧ j < 1073741824 then .ok (.int (i / j)) else .bad
  | _, _ => .bad
def opMod : D → D → Rs D
  | .int i, .int j => if 0 < j then .ok (.int (i % j)) else .bad
  | _, _ => .bad
def opCat : D → D → Rs D
  | .list xs, .list ys => if xs.length + ys.length ≤ 100000 then .ok (.list (xs ++ ys)) else .bad
  | _, _ => .bad
def opLt : D → D → Rs D
  | .int i, .int j => .ok (.bool (decide (i < j)))
  | .str x, .str y => .ok (.bool (decide (x.cps.toList < y.cps.toList)))
  | _, _ => .bad
def opGt : D → D → Rs D
  | .int i, .int j => .ok (.bool (decide (j < i)))
  | .str x, .str y => .ok (.bool (decide (y.cps.toList < x.cps.toList)))
  | _, _ => .bad
def opLe : D → D → Rs D
  | .int i, .int j => .ok (.bool (decide (i ≤ j)))
  | .str x, .str y => .ok (.bool (!decide (y.cps.toList < x.cps.toList)))
  | _, _ => .bad
def opGe : D → D → Rs D
  | .int i, .int j => .ok (.bool (decide (j ≤ i)))
  | _, _ => .bad
def opEq : D → D → Rs D
  | .int x, .int y => .ok (.bool (decide (x = y)))
  | .str x, .str y => .ok (.bool (decide (x = y)))
  | a, b => if SeqAt.shaped a = true ∧ SeqAt.shaped b = true then .ok (.bool (PyData.eqv a b)) else .bad
def opNe : D → D → Rs D
  | .int x, .int y => .ok (.bool (!decide (x = y)))
  | .str x, .str y => .ok (.bool (!decide (x = y)))
  | a, b => if SeqAt.shaped a = true ∧ SeqAt.shaped b = true then .ok (.bool (!PyData.eqv a b)) else .bad
def isNone : D → Bool
  | .none => true
  | _ => false
def opIs : D → D → Rs D
  | a, .none => .ok (.bool (isNone a))
  | _, _ => .bad
def opIsN : D → D → Rs D
  | a, .none => .ok (.bool (!isNone a))
  | _, _ => .bad
def inB : D → List D → Option Bool
  | .int i, ds => (intsOf ds).map fun ns => decide (i ∈ ns)
  | .str x, ds => (strsOf ds).map fun ns => decide (x ∈ ns)
  | _, _ => none
def rsB : Option Bool → Rs D
  | some b => .ok (.bool b)
  | none => .bad
def opIn : D → D → Rs D
  | a, .list ds => rsB (inB a ds)
  | a, .tuple ds => rsB (inB a ds)
  | .str x, .str z => match x.cps.toList with
    | [c] => .ok (.bool (decide (c ∈ z.cps.toList)))
    | _ => .bad
  | _, _ => .bad
def opNi : D → D → Rs D
  | a, .list ds => rsB ((inB a ds).map (!·))
  | a, .tuple ds => rsB ((inB a ds).map (!·))
  | _, _ => .bad
def rsO : Option D → Rs D
  | some b => .ok b
  | none => .bad
def opIx : D → D → Rs D
  | .list ds, .int i => rsO (atI ds i)
  | .tuple ds, .int i => rsO (atI ds i)
  | .str z, .int i => if z.length ≤ 100000 then rsO ((atI z.cps.toList i).map fun c => .str ⟨#[c]⟩) else .bad
  | _, _ => .bad
def opLen : List D → Rs D
  | [.list ds] => .ok (.int ds.length)
  | [.tuple ds] => .ok (.int ds.length)
  | [.str z] => if z.length ≤ 100000 then .ok (.int z.length) else .bad
  | _ => .bad
def minL : List Int → Int
  | [] => 0
  | [x] => x
  | x :: y :: r => min x (minL (y :: r))
theorem minL_mem : ∀ {ns : List Int}, ns ≠ [] → minL ns ∈ ns
  | [], h => absurd rfl h
  | [x], _ => by simp [minL]
  | x :: y :: r, _ => by
    have ih := minL_mem (ns := y :: r) (by simp)
    simp only [minL]
    by_cases c : x ≤ minL (y :: r)
    · rw [Int.min_eq_left c]; exact List.mem_cons_self
    · rw [Int.min_eq_right (by omega)]; exact List.mem_cons_of_mem _ ih
theorem minL_le : ∀ {ns : List Int} {x : Int}, x ∈ ns → minL ns ≤ x
  | [], x, h => absurd h (by simp)
  | [y], x, h => by
    have e : x = y := by simpa using h
    subst e; exact Int.le_refl _
  | a :: y :: r, x, h => by
    simp only [minL]
    rcases List.mem_cons.mp h with e | h
    · subst e; exact Int.min_le_left _ _
    · exact Int.le_trans (Int.min_le_right _ _) (minL_le h)
theorem minL_eq {ns : List Int} {m : Int} (h : m ∈ ns) (l : ∀ y ∈ ns, m ≤ y) : m = minL ns := by
  have n : ns ≠ [] := fun e => by rw [e] at h; simp at h
  have h1 := l _ (minL_mem n)
  have h2 := minL_le h
  omega
def minR (l : List Int) : Rs D := match l with
  | [] => .bad
  | n :: ns => .ok (.int (minL (n :: ns)))
def minO (l : Option (List Int)) : Rs D := match l with
  | some ns => minR ns
  | none => .bad
def opMin : List D → Rs D
  | [.list ds] => minO (intsOf ds)
  | [.int i, .int j] => .ok (.int (if j < i then j else i))
  | _ => .bad
def opMax : List D → Rs D
  | [.int i, .int j] => .ok (.int (if j > i then j else i))
  | _ => .bad
def rsI : Option Int → Rs D
  | some b => .ok (.int b)
  | none => .bad
def opSum : List D → Rs D
  | [.list ds] => rsI ((intsOf ds).map List.sum)
  | _ => .bad
def opAll : List D → Rs D
  | [.list ds] => rsB ((boolsOf ds).map fun bs => bs.all id)
  | _ => .bad
def opInt : List D → Rs D
  | [.int i] => .ok (.int i)
  | [.bool b] => .ok (.int (if b = true then 1 else 0))
  | _ => .bad
def opList : List D → Rs D
  | [.list ds] => .ok (.list ds)
  | [.tuple ds] => .ok (.list ds)
  | _ => .bad
def tyN : D → String
  | .none => "NoneType"
  | .bool _ => "bool"
  | .int _ => "int"
  | .str _ => "str"
  | .list _ => "list"
  | .tuple _ => "tuple"
  | .dict _ => "dict"
def isiB (T : String) : D → Bool
  | .none => T == "NoneType"
  | .bool _ => T == "bool" || T == "int"
  | .int _ => T == "int"
  | .str _ => T == "str"
  | .list _ => T == "list"
  | .tuple _ => T == "tuple"
  | .dict _ => T == "dict"
def opIsi (T : String) : D → Rs D := fun d => match d with
  | .dict _ => .bad
  | d => .ok (.bool (isiB T d))
def cutD {α : Type} (xs : List α) (lo hi : Option Int) : List α := (xs.drop (HT.sIx xs.length 0 lo)).take (HT.sIx xs.length xs.length hi - HT.sIx xs.length 0 lo)
def opSlS : D → Option Int → Option Int → Rs D
  | .str z, lo, hi => if z.length ≤ 100000 then .ok (.str (cutS z lo hi)) else .bad
  | _, _, _ => .bad
def opSlL : D → Option Int → Option Int → Rs D
  | .list ds, lo, hi => .ok (.list (cutD ds lo hi))
  | _, _, _ => .bad
def findI {α : Type} (p : α → Bool) : List α → Option Nat
  | [] => none
  | x :: r => if p x = true then some 0 else (findI p r).map (· + 1)
def ixB : D → List D → Option Nat
  | .int i, ds => (intsOf ds).bind fun ns => findI (fun x => decide (x = i)) ns
  | .str x, ds => (strsOf ds).bind fun ns => findI (fun y => decide (y = x)) ns
  | .bool b, ds => (boolsOf ds).bind fun ns => findI (fun y => y == b) ns
  | _, _ => none
def rsN : Option Nat → Rs D
  | some b => .ok (.int b)
  | none => .bad
def opIndex : List D → List D → Rs D
  | ds, [d] => rsN (ixB d ds)
  | _, _ => .bad

/-! ### they are what the machine's operations do -/
theorem sz5 {n : Nat} (h : n ≤ 100000) : n ≤ sizeLine := Nat.le_trans h (by decide)
section
variable {X : Cx} {E : XK}
theorem os_add : OpS (zOf X E) (fun x y H Q => (rI0 fun i j => .int (i + j)) x y H Q ∨ (∃ i j, x = .str i ∧ y = .str j ∧ i.length + j.length ≤ sizeLine ∧ Q (.str (i ++ j)) H)) opAdd := by
  intro H0 H x y a b Q s ra rb p
  cases a <;> cases b <;> first | exact p.elim | skip
  case int.int i j => exact .inl ⟨i, j, ra, rb, PostE.now (d := .int (i + j)) s p rfl⟩
  case str.str i j =>
    simp only [opAdd] at p
    by_cases c : i.length + j.length ≤ 100000
    · rw [if_pos c] at p
      exact .inr ⟨i, j, ra, rb, sz5 c, PostE.now (d := .str (i ++ j)) s p rfl⟩
    · rw [if_neg c] at p; exact p.elim
theorem ox_add : OpR X (binaryOp .Add) (fun x y H Q => (rI0 fun i j => .int (i + j)) x y H Q ∨ (∃ i j, x = .str i ∧ y = .str j ∧ i.length + j.length ≤ sizeLine ∧ Q (.str (i ++ j)) H)) := op_add.or op_add_str
theorem os_sub : OpS (zOf X E) (rI0 fun i j => .int (i - j)) opSub := by
  intro H0 H x y a b Q s ra rb p
  cases a <;> cases b <;> first | exact p.elim | skip
  case int.int i j => exact ⟨i, j, ra, rb, PostE.now (d := .int (i - j)) s p rfl⟩
theorem os_mul : OpS (zOf X E) (rI CMul fun i j => .int (i * j)) opMul := by
  intro H0 H x y a b Q s ra rb p
  cases a <;> cases b <;> first | exact p.elim | skip
  case int.int i j =>
    simp only [opMul] at p
    by_cases c : cmul i j = true
    · rw [if_pos c] at p
      exact ⟨i, j, ra, rb, of_decide_eq_true (p := (-(2 ^ 64) < i ∧ i < 2 ^ 64) ∨ (-(2 ^ 64) < j ∧ j < 2 ^ 64)) c, PostE.now (d := .int (i * j)) s p rfl⟩
    · rw [if_neg c] at p; exact p.elim
theorem os_div : OpS (zOf X E) (rI CDiv fun i j => .int (i / j)) opDiv := by
  intro H0 H x y a b Q s ra rb p
  cases a <;> cases b <;> first | exact p.elim | skip
  case int.int i j =>
    simp only [opDiv] at p
    by_cases c : 0 < j ∧ j < 1073741824
    · rw [if_pos c] at p
      exact ⟨i, j, ra, rb, c, PostE.now (d := .int (i / j)) s p rfl⟩
    · rw [if_neg c] at p; exact p.elim
theorem os_mod : OpS (zOf X E) (rI (fun _ j => 0 < j) fun i j => .int (i % j)) opMod := by
  intro H0 H x y a b Q s ra rb p
  cases a <;> cases b <;> first | exact p.elim | skip
  case int.int i j =>
    simp only [opMod] at p
    by_cases c : 0 < j
    · rw [if_pos c] at p
      exact ⟨i, j, ra, rb, c, PostE.now (d := .int (i % j)) s p rfl⟩
    · rw [if_neg c] at p; exact p.elim
/-- + of two lists that are read -/
def rCatS (K : PySem.W.Frag) : R2 := fun x y H Q => ∃ l b xs zs, x = .ref l ∧ y = .ref b ∧ SqL K H l xs ∧ SqL K H b zs ∧ xs.length + zs.length ≤ sizeLine ∧ ∀ p, H p = none → Q (.ref p) (upd H p (.lst (xs ++ zs)))
theorem ox_cat : OpR X (binaryOp .Add) (rCatS X.K) := by
  intro pins s σ H x y v u Q I rx ry h
  obtain ⟨l, b, xs, zs, rfl, rfl, hH, hB, hz, q⟩ := h
  cases rx
  cases ry
  obtain ⟨its, r, ⟨⟨cls, dd, data, sl⟩, n, e, hc, hd, hdt⟩, z⟩ := I.list hH
  obtain ⟨its2, r2, ⟨⟨cls2, dd2, data2, sl2⟩, n2, e2, hc2, hd2, hdt2⟩, z2⟩ := I.list hB
  simp only at hc hd hdt hc2 hd2 hdt2
  subst hc hdt hc2 hdt2
  have hl := r.length
  have hl2 := r2.length
  have hz' : its.toArray.size + its2.toArray.size ≤ sizeLine := by rw [List.size_toArray, List.size_toArray]; omega
  have ea : its.toArray ++ its2.toArray = (its ++ its2).toArray := by simp
  refine concat_meets ⟨_, e, rfl⟩ ⟨_, e2, rfl⟩ noFill_list_add seq_list_add PySem.F.slot_list_add PySem.F.entry_list_add (PySem.F.args_list_add_2 _ _) (list_addW l b its.toArray its2.toArray n n2 dd dd2 sl sl2 hz') ⟨e, e2, ?_⟩
  rw [ea]
  exact ⟨.ref _, _, I.lnew (t' := s.toks) (r.append r2) (by rw [List.length_append]; omega), rfl, q _ I.fresh⟩
theorem oo_cat : OpO (zOf X E) (rCatS X.K) opCat := by
  intro H0 H x y a b Q s ra rb p
  cases a <;> cases b <;> first | exact p.elim | skip
  case list.list i j =>
    simp only [opCat] at p
    by_cases c : i.length + j.length ≤ 100000
    · rw [if_pos c] at p
      obtain ⟨a, vs, rfl, h1, l1⟩ := ra
      obtain ⟨b, ws, rfl, h2, l2⟩ := rb
      refine ⟨a, b, vs, ws, rfl, rfl, s.seq h1, s.seq h2, by rw [l1.length, l2.length]; exact sz5 c, fun t nt => ?_⟩
      exact p t _ _ (Ex2.out s nt _) nt (s.free nt) (.inl ⟨_, _, rfl, upd_same, l1.append l2⟩)
    · rw [if_neg c] at p; exact p.elim
theorem ox_lt : OpR X (compareOp .Lt) (fun x y H Q => (rI0 fun i j => .bl (decide (i < j))) x y H Q ∨ (∃ i j, x = .str i ∧ y = .str j ∧ Q (.bl (decide (i.cps.toList < j.cps.toList))) H)) := op_lt.or op_lt_str
theorem os_lt : OpS (zOf X E) (fun x y H Q => (rI0 fun i j => .bl (decide (i < j))) x y H Q ∨ (∃ i j, x = .str i ∧ y = .str j ∧ Q (.bl (decide (i.cps.toList < j.cps.toList))) H)) opLt := by
  intro H0 H x y a b Q s ra rb p
  cases a <;> cases b <;> first | exact p.elim | skip
  case int.int i j => exact .inl ⟨i, j, ra, rb, PostE.now s p rfl⟩
  case str.str i j => exact .inr ⟨i, j, ra, rb, PostE.now s p rfl⟩
theorem ox_gt : OpR X (compareOp .Gt) (fun x y H Q => (rI0 fun i j => .bl (decide (j < i))) x y H Q ∨ (∃ i j, x = .str i ∧ y = .str j ∧ Q (.bl (decide (j.cps.toList < i.cps.toList))) H)) := op_gt.or op_gt_str
theorem os_gt : OpS (zOf X E) (fun x y H Q => (rI0 fun i j => .bl (decide (j < i))) x y H Q ∨ (∃ i j, x = .str i ∧ y = .str j ∧ Q (.bl (decide (j.cps.toList < i.cps.toList))) H)) opGt := by
  intro H0 H x y a b Q s ra rb p
  cases a <;> cases b <;> first | exact p.elim | skip
  case int.int i j => exact .inl ⟨i, j, ra, rb, PostE.now s p rfl⟩
  case str.str i j => exact .inr ⟨i, j, ra, rb, PostE.now s p rfl⟩
theorem ox_le : OpR X (compareOp .LtE) (fun x y H Q => (rI0 fun i j => .bl (decide (i ≤ j))) x y H Q ∨ (∃ i j, x = .str i ∧ y = .str j ∧ Q (.bl (!decide (j.cps.toList < i.cps.toList))) H)) := op_le.or op_le_str
theorem os_le : OpS (zOf X E) (fun x y H Q => (rI0 fun i j => .bl (decide (i ≤ j))) x y H Q ∨ (∃ i j, x = .str i ∧ y = .str j ∧ Q (.bl (!decide (j.cps.toList < i.cps.toList))) H)) opLe := by
  intro H0 H x y a b Q s ra rb p
  cases a <;> cases b <;> first | exact p.elim | skip
  case int.int i j => exact .inl ⟨i, j, ra, rb, PostE.now s p rfl⟩
  case str.str i j => exact .inr ⟨i, j, ra, rb, PostE.now s p rfl⟩
theorem os_ge : OpS (zOf X E) (rI0 fun i j => .bl (decide (j ≤ i))) opGe := by
  intro H0 H x y a b Q s ra rb p
  cases a <;> cases b <;> first | exact p.elim | skip
  case int.int i j => exact ⟨i, j, ra, rb, PostE.now s p rfl⟩
theorem Room.u64 {k : Nat} {A : Around} (r : Room k A) : A.units + 64 < cLine := r.units
theorem deepE {Z : Wh} {H0 H : Hp} {x y : V} {a b : D} {Q : VK} {r : Bool} (s : Same H0 H) (ra : Rp Z.K H0 a x) (rb : Rp Z.K H0 b y)
    (p : PostE Z H0 H (if SeqAt.shaped a = true ∧ SeqAt.shaped b = true then .ok (.bool r) else .bad) Q) : ∃ d e, Dp Z.K H x d ∧ Dp Z.K H y e ∧ SeqAt.shaped d = true ∧ SeqAt.shaped e = true ∧ d = a ∧ e = b ∧ Q (.bl r) H := by
  by_cases c : SeqAt.shaped a = true ∧ SeqAt.shaped b = true
  · rw [if_pos c] at p
    exact ⟨a, b, dp_of (SeqAt.canLay_of_shaped c.1) (ra.mono s), dp_of (SeqAt.canLay_of_shaped c.2) (rb.mono s), c.1, c.2, rfl, rfl, PostE.now s p rfl⟩
  · rw [if_neg c] at p; exact p.elim
theorem ox_eq (hu : X.A.units + 64 < cLine) : OpR X (compareOp .Eq) (fun x y H Q => rEq x y H Q ∨ rEqD X.K x y H Q) := op_eq.or (op_eqD hu)
theorem os_eq : OpS (zOf X E) (fun x y H Q => rEq x y H Q ∨ rEqD X.K x y H Q) opEq := by
  intro H0 H x y a b Q s ra rb p
  have deep : PostE (zOf X E) H0 H (if SeqAt.shaped a = true ∧ SeqAt.shaped b = true then .ok (.bool (PyData.eqv a b)) else .bad) Q → rEqD X.K x y H Q := fun p => by
    obtain ⟨d, e, h1, h2, h3, h4, rfl, rfl, q⟩ := deepE s ra rb p
    exact ⟨_, _, h1, h2, h3, h4, q⟩
  cases a <;> cases b <;> first | exact .inr (deep p) | skip
  case str.str i j =>
    cases (show x = .str i from ra); cases (show y = .str j from rb)
    refine .inl ⟨rfl, ?_⟩
    rw [dec_str, Bool.beq_eq_decide_eq]
    exact PostE.now s p rfl
theorem ox_ne (hu : X.A.units + 64 < cLine) : OpR X (compareOp .NotEq) (fun x y H Q => rNe x y H Q ∨ rNeD X.K x y H Q) := op_ne.or (op_neD hu)
theorem os_ne : OpS (zOf X E) (fun x y H Q => rNe x y H Q ∨ rNeD X.K x y H Q) opNe := by
  intro H0 H x y a b Q s ra rb p
  have deep : PostE (zOf X E) H0 H (if SeqAt.shaped a = true ∧ SeqAt.shaped b = true then .ok (.bool (!PyData.eqv a b)) else .bad) Q → rNeD X.K x y H Q := fun p => by
    obtain ⟨d, e, h1, h2, h3, h4, rfl, rfl, q⟩ := deepE s ra rb p
    exact ⟨_, _, h1, h2, h3, h4, q⟩
  cases a <;> cases b <;> first | exact .inr (deep p) | skip
  case str.str i j =>
    cases (show x = .str i from ra); cases (show y = .str j from rb)
    refine .inl ⟨rfl, ?_⟩
    rw [dec_str, Bool.beq_eq_decide_eq]
    exact PostE.now s p rfl
theorem isNone_eq {K : PySem.W.Frag} {H0 : Hp} {a : D} {x : V} (r : Rp K H0 a x) : decide (x = .non) = isNone a := by
  cases a with
  | none => cases r; rfl
  | bool b => cases r; rfl
  | int b => cases r; rfl
  | str b => cases r; rfl
  | list b => obtain ⟨_, _, rfl, _⟩ := r; rfl
  | tuple b => obtain ⟨_, _, rfl, _⟩ := r; rfl
  | dict b => rcases r with ⟨_, _, rfl, _⟩ | ⟨_, _, _, rfl, _⟩ <;> rfl
theorem os_is : OpS (zOf X E) (fun x y H Q => y = .non ∧ Q (.bl (decide (x = .non))) H) opIs := by
  intro H0 H x y a b Q s ra rb p
  cases b with
  | none => exact ⟨rb, by rw [isNone_eq ra]; exact PostE.now (d := .bool (isNone a)) s (by cases a <;> exact p) rfl⟩
  | _ => cases a <;> exact p.elim
theorem os_isn : OpS (zOf X E) (fun x y H Q => y = .non ∧ Q (.bl (!decide (x = .non))) H) opIsN := by
  intro H0 H x y a b Q s ra rb p
  cases b with
  | none => exact ⟨rb, by rw [isNone_eq ra]; exact PostE.now (d := .bool (!isNone a)) s (by cases a <;> exact p) rfl⟩
  | _ => cases a <;> exact p.elim
theorem all_flatI (ns : List Int) : (ns.map V.int).all flatV = true := by rw [List.all_map]; exact List.all_eq_true.mpr fun _ _ => rfl
theorem all_flatS (ns : List Str) : (ns.map V.str).all flatV = true := by rw [List.all_map]; exact List.all_eq_true.mpr fun _ _ => rfl
theorem all_flatB (ns : List Bool) : (ns.map V.bl).all flatV = true := by rw [List.all_map]; exact List.all_eq_true.mpr fun _ _ => rfl
theorem inV_int (i : Int) : ∀ ns : List Int, inV (.int i) (ns.map V.int) = decide (i ∈ ns)
  | [] => rfl
  | n :: r => by
    have ih := inV_int i r
    unfold inV at ih ⊢
    rw [List.map_cons, List.any_cons, ih]
    by_cases c : i = n
    · subst c; simp [eqV]
    · have c' : ¬ n = i := fun e => c e.symm
      simp [eqV, c, c']
theorem inV_str (i : Str) : ∀ ns : List Str, inV (.str i) (ns.map V.str) = decide (i ∈ ns)
  | [] => rfl
  | n :: r => by
    have ih := inV_str i r
    unfold inV at ih ⊢
    rw [List.map_cons, List.any_cons, ih]
    by_cases c : i = n
    · subst c; simp [eqV]
    · have c' : ¬ n = i := fun e => c e.symm
      simp [eqV, c, c']
theorem inB_run {K : PySem.W.Frag} {H0 : Hp} {a : D} {x : V} {ds : List D} {vs : List V} {b : Bool} (ra : Rp K H0 a x) (rl : RpL K H0 ds vs) (h : inB a ds = some b) : flatV x = true ∧ vs.all flatV = true ∧ inV x vs = b := by
  cases a <;> simp [inB] at h
  case int i =>
    obtain ⟨ns, e, rfl⟩ := h
    have := intsOf_some e
    subst this
    have ev := rl.ints
    subst ev
    cases (show x = .int i from ra)
    exact ⟨rfl, all_flatI _, inV_int _ _⟩
  case str i =>
    obtain ⟨ns, e, rfl⟩ := h
    have := strsOf_some e
    subst this
    have ev := rl.strs
    subst ev
    cases (show x = .str i from ra)
    exact ⟨rfl, all_flatS _, inV_str _ _⟩
abbrev rInS1 : R2 := fun x y H Q => ∃ (c : Nat) (z : Str), x = .str ⟨#[c]⟩ ∧ y = .str z ∧ Q (.bl (decide (c ∈ z.cps.toList))) H
theorem ox_in : OpR X (compareOp .In) (fun x y H Q => rIn X.K false x y H Q ∨ rInS1 x y H Q) := op_in_seq.or op_in_sign
theorem rsB_run {Z : Wh} {H0 H : Hp} {o : Option Bool} {Q : VK} (s : Same H0 H) (p : PostE Z H0 H (rsB o) Q) : ∃ b, o = some b ∧ Q (.bl b) H := by
  cases o with
  | none => exact p.elim
  | some b => exact ⟨b, rfl, PostE.now (d := .bool b) s p rfl⟩
theorem os_in : OpS (zOf X E) (fun x y H Q => rIn X.K false x y H Q ∨ rInS1 x y H Q) opIn := by
  intro H0 H x y a b Q s ra rb p
  cases b with
  | list ds =>
    obtain ⟨b, e, q⟩ := rsB_run s (show PostE (zOf X E) H0 H (rsB (inB a ds)) Q by cases a <;> exact p)
    obtain ⟨l, vs, rfl, h1, h2⟩ := rb
    obtain ⟨f1, f2, rfl⟩ := inB_run ra h2 e
    exact .inl ⟨l, vs, rfl, .inl (s.seq h1), f1, f2, q⟩
  | tuple ds =>
    obtain ⟨b, e, q⟩ := rsB_run s (show PostE (zOf X E) H0 H (rsB (inB a ds)) Q by cases a <;> exact p)
    obtain ⟨l, vs, rfl, h1, h2⟩ := rb
    obtain ⟨f1, f2, rfl⟩ := inB_run ra h2 e
    exact .inl ⟨l, vs, rfl, .inr (sqt_same s h1), f1, f2, q⟩
  | str z =>
    cases a <;> first | exact p.elim | skip
    case str x' =>
      simp only [opIn] at p
      split at p
      · rename_i c hc
        have e : x' = ⟨#[c]⟩ := by
          obtain ⟨cps⟩ := x'
          simp only at hc
          congr 1
          rw [← Array.toArray_toList (xs := cps), hc]
        subst e
        exact .inr ⟨c, z, ra, rb, PostE.now s p rfl⟩
      · exact p.elim
  | _ => cases a <;> exact p.elim
theorem os_ni : OpS (zOf X E) (rIn X.K true) opNi := by
  intro H0 H x y a b Q s ra rb p
  cases b with
  | list ds =>
    obtain ⟨b, e, q⟩ := rsB_run s (show PostE (zOf X E) H0 H (rsB ((inB a ds).map (!·))) Q by cases a <;> exact p)
    obtain ⟨b', e9, rfl⟩ := Option.map_eq_some_iff.mp e
    obtain ⟨l, vs, rfl, h1, h2⟩ := rb
    obtain ⟨f1, f2, rfl⟩ := inB_run ra h2 e9
    exact ⟨l, vs, rfl, .inl (s.seq h1), f1, f2, q⟩
  | tuple ds =>
    obtain ⟨b, e, q⟩ := rsB_run s (show PostE (zOf X E) H0 H (rsB ((inB a ds).map (!·))) Q by cases a <;> exact p)
    obtain ⟨b', e9, rfl⟩ := Option.map_eq_some_iff.mp e
    obtain ⟨l, vs, rfl, h1, h2⟩ := rb
    obtain ⟨f1, f2, rfl⟩ := inB_run ra h2 e9
    exact ⟨l, vs, rfl, .inr (sqt_same s h1), f1, f2, q⟩
  | _ => cases a <;> exact p.elim
theorem RpL.at {K : PySem.W.Frag} {H : Hp} {ds : List D} {vs : List V} {i : Int} {d : D} (h : RpL K H ds vs) (e : atI ds i = some d) : ∃ v, atI vs i = some v ∧ Rp K H d v := by
  unfold atI at e ⊢
  rw [h.length]
  cases q : ixN ds.length i with
  | none => rw [q] at e; cases e
  | some j =>
    rw [q] at e
    exact h.get e
theorem rsO_run {Z : Wh} {H0 H : Hp} {o : Option D} {Q : VK} (p : PostE Z H0 H (rsO o) Q) : ∃ b, o = some b ∧ PostE Z H0 H (.ok b) Q := by
  cases o with
  | none => exact p.elim
  | some b => exact ⟨b, rfl, p⟩
theorem os_ix : OpS (zOf X E) (rIx X.K) opIx := by
  intro H0 H x y a b Q s ra rb p
  cases b with
  | int i =>
    cases (show y = .int i from rb)
    cases a with
    | list ds =>
      obtain ⟨d, e, q⟩ := rsO_run p
      obtain ⟨l, vs, rfl, h1, h2⟩ := ra
      obtain ⟨v, ev, rv⟩ := h2.at e
      exact .inl ⟨l, vs, i, v, rfl, rfl, s.seq h1, ev, q.now s rv⟩
    | tuple ds =>
      obtain ⟨d, e, q⟩ := rsO_run p
      obtain ⟨l, vs, rfl, h1, h2⟩ := ra
      obtain ⟨v, ev, rv⟩ := h2.at e
      exact .inr (.inl ⟨l, vs, i, v, rfl, rfl, sqt_same s h1, ev, q.now s rv⟩)
    | str z =>
      cases (show x = .str z from ra)
      simp only [opIx] at p
      by_cases c : z.length ≤ 100000
      · rw [if_pos c] at p
        obtain ⟨d, e, q⟩ := rsO_run p
        obtain ⟨c', ec, rfl⟩ := Option.map_eq_some_iff.mp e
        exact .inr (.inr ⟨z, i, c', rfl, rfl, sz5 c, ec, q.now s rfl⟩)
      · rw [if_neg c] at p; exact p.elim
    | _ => exact p.elim
  | _ => cases a <;> exact p.elim
/-! built-in calls -/
theorem RpL.one {K : PySem.W.Frag} {H : Hp} {d : D} {vs : List V} (h : RpL K H [d] vs) : ∃ v, vs = [v] ∧ Rp K H d v := by
  obtain ⟨v, r, rfl, h1, h2⟩ := h
  cases h2
  exact ⟨v, rfl, h1⟩
theorem RpL.two {K : PySem.W.Frag} {H : Hp} {d e : D} {vs : List V} (h : RpL K H [d, e] vs) : ∃ v w, vs = [v, w] ∧ Rp K H d v ∧ Rp K H e w := by
  obtain ⟨v, r, rfl, h1, h2⟩ := h
  obtain ⟨w, rfl, h3⟩ := h2.one
  exact ⟨v, w, rfl, h1, h3⟩
abbrev rLen1 (K : PySem.W.Frag) : List V → Hp → VK → Prop := fun xs H Q => (∃ p ys, xs = [.ref p] ∧ (SqL K H p ys ∨ SqT K H p ys) ∧ Q (.int ys.length) H) ∨ ∃ z, xs = [.str z] ∧ z.length ≤ sizeLine ∧ Q (.int z.length) H
theorem ox_len : CallR X (.builtin "len") (rLen1 X.K) := call_len_seq.or call_len_str
theorem os_len : CaS (zOf X E) (rLen1 X.K) opLen := by
  intro H0 H xs as Q s r p
  match as, p with
  | [.list ds], p =>
    obtain ⟨v, rfl, l, vs, rfl, h1, h2⟩ := r.one
    exact .inl ⟨l, vs, rfl, .inl (s.seq h1), by rw [h2.length]; exact PostE.now (d := .int ds.length) s p rfl⟩
  | [.tuple ds], p =>
    obtain ⟨v, rfl, l, vs, rfl, h1, h2⟩ := r.one
    exact .inl ⟨l, vs, rfl, .inr (sqt_same s h1), by rw [h2.length]; exact PostE.now (d := .int ds.length) s p rfl⟩
  | [.str z], p =>
    obtain ⟨v, rfl, rfl⟩ := r.one
    simp only [opLen] at p
    by_cases c : z.length ≤ 100000
    · rw [if_pos c] at p
      exact .inr ⟨z, rfl, sz5 c, PostE.now (d := .int z.length) s p rfl⟩
    · rw [if_neg c] at p; exact p.elim
  | [], p => exact p.elim
  | [.none], p => exact p.elim
  | [.bool _], p => exact p.elim
  | [.int _], p => exact p.elim
  | [.dict _], p => exact p.elim
  | _ :: _ :: _, p => simp only [opLen] at p; exact p.elim
abbrev rMin1 (K : PySem.W.Frag) : List V → Hp → VK → Prop := fun xs H Q => rMin K xs H Q ∨ ∃ i j, xs = [.int i, .int j] ∧ Q (.int (if j < i then j else i)) H
theorem ox_min (hc : X.calm = true) : CallR X (.builtin "min") (rMin1 X.K) := (cr_min hc).or (call_min2 hc)
theorem os_min : CaS (zOf X E) (rMin1 X.K) opMin := by
  intro H0 H xs as Q s r p
  unfold opMin at p
  split at p
  · rename_i ds
    cases e : intsOf ds with
    | none => rw [e] at p; exact p.elim
    | some ns =>
      rw [e] at p
      cases ns with
      | nil => exact p.elim
      | cons n ns =>
        obtain ⟨v, rfl, l, vs, rfl, h1, h2⟩ := r.one
        have e' := intsOf_some e
        subst e'
        have ev := h2.ints
        subst ev
        refine .inl ⟨l, n :: ns, rfl, s.seq h1, Nat.succ_pos _, fun m hm hl => ?_⟩
        rw [minL_eq hm fun y hy => hl y hy]
        exact PostE.now (d := .int _) s p rfl
  · rename_i i j
    obtain ⟨v, w, rfl, rfl, rfl⟩ := r.two
    exact .inr ⟨i, j, rfl, PostE.now s p rfl⟩
  · exact p.elim
theorem os_max : CaS (zOf X E) (fun xs H Q => ∃ i j, xs = [.int i, .int j] ∧ Q (.int (if j > i then j else i)) H) opMax := by
  intro H0 H xs as Q s r p
  unfold opMax at p
  split at p
  · rename_i i j
    obtain ⟨v, w, rfl, rfl, rfl⟩ := r.two
    exact ⟨i, j, rfl, PostE.now s p rfl⟩
  · exact p.elim
theorem rsI_run {Z : Wh} {H0 H : Hp} {o : Option Int} {Q : VK} (s : Same H0 H) (p : PostE Z H0 H (rsI o) Q) : ∃ b, o = some b ∧ Q (.int b) H := by
  cases o with
  | none => exact p.elim
  | some b => exact ⟨b, rfl, PostE.now (d := .int b) s p rfl⟩
theorem os_sum : CaS (zOf X E) (rSum X.K) opSum := by
  intro H0 H xs as Q s r p
  unfold opSum at p
  split at p
  · rename_i ds
    obtain ⟨b, e, q⟩ := rsI_run s p
    obtain ⟨ns, e9, rfl⟩ := Option.map_eq_some_iff.mp e
    obtain ⟨v, rfl, l, vs, rfl, h1, h2⟩ := r.one
    have e' := intsOf_some e9
    subst e'
    have ev := h2.ints
    subst ev
    exact ⟨l, ns, rfl, s.seq h1, q⟩
  · exact p.elim
theorem os_all : CaS (zOf X E) (rAll X.K) opAll := by
  intro H0 H xs as Q s r p
  unfold opAll at p
  split at p
  · rename_i ds
    obtain ⟨b, e, q⟩ := rsB_run s p
    obtain ⟨ns, e9, rfl⟩ := Option.map_eq_some_iff.mp e
    obtain ⟨v, rfl, l, vs, rfl, h1, h2⟩ := r.one
    have e' := boolsOf_some e9
    subst e'
    have ev := h2.bls
    subst ev
    exact ⟨l, ns, rfl, s.seq h1, q⟩
  · exact p.elim
theorem os_int : CaS (zOf X E) (fun xs H Q => (∃ i, xs = [.int i] ∧ Q (.int i) H) ∨ ∃ k, xs = [.bl k] ∧ Q (.int (if k then 1 else 0)) H) opInt := by
  intro H0 H xs as Q s r p
  unfold opInt at p
  split at p
  · rename_i i
    obtain ⟨v, rfl, rfl⟩ := r.one
    exact .inl ⟨i, rfl, PostE.now (d := .int i) s p rfl⟩
  · rename_i i
    obtain ⟨v, rfl, rfl⟩ := r.one
    exact .inr ⟨i, rfl, PostE.now (d := .int _) s p rfl⟩
  · exact p.elim
theorem oo_list : CaO (zOf X E) (fun xs H Q => ∃ p ys, xs = [.ref p] ∧ (SqL X.K H p ys ∨ SqT X.K H p ys) ∧ ∀ l, H l = none → Q (.ref l) (upd H l (.lst ys))) opList := by
  intro H0 H xs as Q s r p
  unfold opList at p
  split at p
  · rename_i ds
    obtain ⟨v, rfl, l, vs, rfl, h1, h2⟩ := r.one
    exact ⟨l, vs, rfl, .inl (s.seq h1), fun t nt => p t _ _ (Ex2.out s nt _) nt (s.free nt) (.inl ⟨_, _, rfl, upd_same, h2⟩)⟩
  · rename_i ds
    obtain ⟨v, rfl, l, vs, rfl, h1, h2⟩ := r.one
    exact ⟨l, vs, rfl, .inr (sqt_same s h1), fun t nt => p t _ _ (Ex2.out s nt _) nt (s.free nt) (.inl ⟨_, _, rfl, upd_same, h2⟩)⟩
  · exact p.elim
end
/-! isinstance against a built-in type -/
theorem kit7 : ∀ T ∈ (["int", "bool", "str", "list", "tuple"] : List String), ∀ t ∈ (["NoneType", "bool", "int", "str", "list", "tuple", "dict"] : List String), kitB t T = some (t == T || (t == "bool" && T == "int")) := by decide +kernel
theorem isiB_eq (T : String) (d : D) (hT : T ∈ (["int", "bool", "str", "list", "tuple"] : List String)) : kitB (tyN d) T = some (isiB T d) := by
  have h := kit7 T hT (tyN d) (by cases d <;> simp [tyN])
  rw [h]
  simp only [List.mem_cons, List.not_mem_nil, or_false] at hT
  rcases hT with rfl | rfl | rfl | rfl | rfl <;> cases d <;> rfl
theorem tyx_of {K : PySem.W.Frag} {H : Hp} {d : D} {x : V} (nd : ∀ k, d ≠ .dict k) (r : Rp K H d x) : TyX K H x (.type (tyN d)) := by
  cases d with
  | none => cases r; exact .base .non
  | bool b => cases r; exact .base (.bl b)
  | int b => cases r; exact .base (.int b)
  | str b => cases r; exact .base (.str b)
  | list b =>
    obtain ⟨a, vs, rfl, h, _⟩ := r
    rcases h with (h | ⟨o, h⟩) | ⟨o, its, n, hk, hc, _⟩
    · exact .base (.lst h)
    · exact .base (.frz h)
    · exact .kList hk hc
  | tuple b =>
    obtain ⟨a, vs, rfl, h, _⟩ := r
    rcases h with (h | ⟨o, h⟩) | ⟨o, its, n, hk, hc, _⟩
    · exact .base (.tup h)
    · exact .fTuple h
    · exact .kTuple hk hc
  | dict b => exact absurd rfl (nd b)
section
variable {X : Cx} {E : XK} {e o : Expr} {es : List Expr} {fe fo : Ev → Rs D} {fr : Ev → Rs (List D)} {pos p p2 : Pos}
theorem se_isi {T : String} {x2 : Str} (h : SE X E e fe) (hm : X.mg "isinstance" = none) (hm2 : X.mg x2 = none) (hT : T ∈ (["int", "bool", "str", "list", "tuple"] : List String)) (hv : bootBuiltins "isinstance" = some (.builtin "isinstance")) (hv2 : bootBuiltins x2 = some (.type T))
    (hg : Gl X "isinstance" := by rfl) (hg2 : Gl X x2 := by rfl) (hn : x2 ≠ "__name__" := by decide) (hdb : (x2 == ("__debug__" : Str)) = false := by decide)
    (he : starEach [e, .Name x2 p2] X.env = (false, eval e X.env) :: starEach [.Name x2 p2] X.env := by rfl) (he2 : starEach [.Name x2 p2] X.env = (false, eval (.Name x2 p2) X.env) :: starEach [] X.env := by rfl)
    (hpl : (backTo pos (starEach [.Name x2 p2] X.env)).any (·.1) = false := by rfl) :
    SE X E (.Call (.Name "isinstance" p) [e, .Name x2 p2] [] pos) (e1 (opIsi T) fe) := by
  have A : PA X [e, .Name x2 p2] (tCons (tE (zOf X E) fe) (tCons (tC (.ty T)) tNil)) := pa_cons h (pa_cons (pe_bltn (v := .ty T) hg2 hm2 hv2 rfl hn hdb) pa_nil he2) he
  refine PE.weak (pe_callB call_isi hg hm hv A (he := he) (hpl := hpl)) fun σ H Q q => ?_
  obtain ⟨H0, ev, s, rv, q⟩ := q
  refine ⟨H0, ev, s, rv, ?_⟩
  unfold e1 at q
  cases ea : fe ev with
  | bad => rw [ea] at q; exact q
  | exc x => rw [ea] at q; exact q
  | ok d =>
    rw [ea] at q
    intro v H1 H' x1 r1
    have nd : ∀ k, d ≠ .dict k := fun k z => by subst z; exact q.elim
    have q' : PostE (zOf X E) H0 H (.ok (.bool (isiB T d))) Q := by cases d <;> first | exact q | exact absurd rfl (nd _)
    exact ⟨v, .ty T, .type (tyN d), .type T, isiB T d, rfl, .ty T, tyx_of nd (r1.mono x1.c), kit_ty (isiB_eq T d hT), PostE.now (d := .bool _) x1.c (q'.step x1) rfl⟩
/-! slices -/
def pO (Z : Wh) (fo : Ev → Rs (Option Int)) : TO := fun σ H Q => ∃ H0 ev, Same H0 H ∧ RpV Z.K H0 σ ev ∧ (match fo ev with
  | .ok o => ∀ H', Same H H' → Q o H'
  | .exc x => ∀ H', Same H H' → EX Z.mg Z.E x H'
  | .bad => False)
def oN : Ev → Rs (Option Int) := fun _ => .ok none
def asI : D → Rs (Option Int)
  | .int i => .ok (some i)
  | _ => .bad
def oS (fe : Ev → Rs D) : Ev → Rs (Option Int) := fun ev => (fe ev).bind asI
theorem PO.weak {oe : Option Expr} {t t' : TO} (h : PO X oe t) (w : ∀ σ H Q, t' σ H Q → t σ H Q) : PO X oe t' := by
  obtain ⟨h⟩ := h
  first
    | exact ⟨fun pins s σ H Q I q => h pins s σ H Q I (w σ H Q q)⟩
    | exact ⟨fun pins s σ H Q E I q => h pins s σ H Q E I (w σ H Q q)⟩
theorem so_n : PO X none (pO (zOf X E) oN) := PO.weak po_none fun σ H Q ⟨H0, ev, s, rv, q⟩ => q H (Same.refl _)
theorem so_s (h : SE X E e fe) : PO X (some e) (pO (zOf X E) (oS fe)) := by
  refine PO.weak (po_some h) fun σ H Q q => ?_
  obtain ⟨H0, ev, s, rv, q⟩ := q
  refine ⟨H0, ev, s, rv, ?_⟩
  unfold oS at q
  cases ea : fe ev with
  | bad => rw [ea] at q; exact q
  | exc x => rw [ea] at q; exact q
  | ok d =>
    rw [ea] at q
    intro v H1 H' x1 r1
    cases d with
    | int i => exact ⟨i, r1, q H' x1.b⟩
    | _ => exact q.elim
def eSl (op : D → Option Int → Option Int → Rs D) (fe : Ev → Rs D) (fl fh : Ev → Rs (Option Int)) : Ev → Rs D := fun ev => (fe ev).bind fun a => (fl ev).bind fun l => (fh ev).bind fun h => op a l h
theorem sl_of {Z : Wh} {fl fh : Ev → Rs (Option Int)} {op : D → Option Int → Option Int → Rs D} {r : V → Option Int → Option Int → Hp → VK → Prop} {σ : L2.St} {H : Hp} {Q : VK} {P : Hp → Hp → Rs D → Prop} (h : ∃ H0 ev, Same H0 H ∧ RpV Z.K H0 σ ev ∧ P H0 H (eSl op fe fl fh ev))
    (step : ∀ H0 H H0' H' r, Ex2 H0 H H0' H' → P H0 H r → P H0' H' r) (hexc : ∀ H0 H x, P H0 H (.exc x) → ∀ H', Same H H' → EX Z.mg Z.E x H') (hbad : ∀ H0 H, ¬ P H0 H .bad)
    (fin : ∀ H0 H x a lo hi, Same H0 H → Rp Z.K H0 a x → P H0 H (op a lo hi) → r x lo hi H Q) : tSl r (tE Z fe) (pO Z fl) (pO Z fh) σ H Q := by
  obtain ⟨H0, ev, s, rv, p⟩ := h
  refine ⟨H0, ev, s, rv, ?_⟩
  unfold eSl at p
  cases ea : fe ev with
  | bad => rw [ea] at p; exact (hbad _ _ p).elim
  | exc x => rw [ea] at p; exact hexc _ _ _ p
  | ok a =>
    rw [ea] at p
    intro v H1 H' x1 r1
    have p := step _ _ _ _ _ x1 p
    simp only [Rs.ok_bind] at p
    refine ⟨H1, ev, x1.c, rv.mono x1.a, ?_⟩
    cases eb : fl ev with
    | bad => rw [eb] at p; exact (hbad _ _ p).elim
    | exc x => rw [eb] at p; exact hexc _ _ _ p
    | ok lo =>
      rw [eb] at p
      intro H2 s2
      have x2 : Ex2 H1 H' H1 H2 := ⟨Same.refl _, s2, x1.c.trans s2, fun _ _ _ => rfl⟩
      have p := step _ _ _ _ _ x2 p
      simp only [Rs.ok_bind] at p
      refine ⟨H1, ev, x2.c, rv.mono x1.a, ?_⟩
      cases ec : fh ev with
      | bad => rw [ec] at p; exact (hbad _ _ p).elim
      | exc x => rw [ec] at p; exact hexc _ _ _ p
      | ok hi =>
        rw [ec] at p
        intro H3 s3
        have x3 : Ex2 H1 H2 H1 H3 := ⟨Same.refl _, s3, x2.c.trans s3, fun _ _ _ => rfl⟩
        exact fin H1 H3 v a lo hi x3.c r1 (step _ _ _ _ _ x3 p)
theorem se_slS {lo hi : Option Expr} {fl fh : Ev → Rs (Option Int)} (he : SE X E e fe) (hl : PO X lo (pO (zOf X E) fl)) (hh : PO X hi (pO (zOf X E) fh)) : SE X E (.Subscript e (.Slice lo hi none p2) pos) (eSl opSlS fe fl fh) := by
  refine PE.weak (pe_slice sl_str he hl hh) fun σ H Q q => ?_
  refine sl_of (P := fun H0 H r => PostE (zOf X E) H0 H r Q) q (fun _ _ _ _ _ x p => p.step x) (fun _ _ _ p => p) (fun _ _ p => p) fun H0 H x a lo hi s ra p => ?_
  cases a <;> first | exact p.elim | skip
  case str z =>
    simp only [opSlS] at p
    by_cases c : z.length ≤ 100000
    · rw [if_pos c] at p
      exact ⟨z, ra, sz5 c, PostE.now (d := .str _) s p rfl⟩
    · rw [if_neg c] at p; exact p.elim
theorem so_slL {lo hi : Option Expr} {fl fh : Ev → Rs (Option Int)} (he : SE X E e fe) (hl : PO X lo (pO (zOf X E) fl)) (hh : PO X hi (pO (zOf X E) fh)) : SO X E (.Subscript e (.Slice lo hi none p2) pos) (eSl opSlL fe fl fh) := by
  refine PE.weak (pe_slice sl_list he hl hh) fun σ H Q q => ?_
  refine sl_of (P := fun H0 H r => PostO (zOf X E) H0 H r Q) q (fun _ _ _ _ _ x p => p.step x) (fun _ _ _ p => p) (fun _ _ p => p) fun H0 H x a lo hi s ra p => ?_
  cases a <;> first | exact p.elim | skip
  case list ds =>
    obtain ⟨l, vs, rfl, h1, h2⟩ := ra
    refine ⟨l, vs, rfl, s.seq h1, fun t nt => ?_⟩
    refine p t _ _ (Ex2.out s nt _) nt (s.free nt) (.inl ⟨_, _, rfl, upd_same, ?_⟩)
    unfold cutD cutV
    rw [← h2.length]
    exact (h2.drop _).take _
/-! a method of a list -/
theorem findI_some {α : Type} {p : α → Bool} : ∀ {l : List α} {j : Nat}, findI p l = some j → (∃ z, l[j]? = some z ∧ p z = true) ∧ ∀ (m : Nat) (z : α), m < j → l[m]? = some z → p z = false
  | [], j, h => by simp [findI] at h
  | x :: r, j, h => by
    unfold findI at h
    by_cases c : p x = true
    · rw [if_pos c] at h
      cases h
      exact ⟨⟨x, rfl, c⟩, fun m z hm => absurd hm (Nat.not_lt_zero m)⟩
    · rw [if_neg c] at h
      obtain ⟨k, e, rfl⟩ := Option.map_eq_some_iff.mp h
      obtain ⟨⟨z, h1, h2⟩, h3⟩ := findI_some e
      refine ⟨⟨z, h1, h2⟩, fun m z' hm hz => ?_⟩
      cases m with
      | zero =>
        cases (show x = z' from Option.some.inj hz)
        exact Bool.eq_false_iff.mpr c
      | succ m => exact h3 m z' (Nat.lt_of_succ_lt_succ hm) hz
theorem ixB_run {K : PySem.W.Frag} {H0 : Hp} {a : D} {x : V} {ds : List D} {vs : List V} {j : Nat} (ra : Rp K H0 a x) (rl : RpL K H0 ds vs) (h : ixB a ds = some j) :
    flatV x = true ∧ vs.all flatV = true ∧ (∃ z, vs[j]? = some z ∧ eqV z x = true) ∧ ∀ (m : Nat) (z' : V), m < j → vs[m]? = some z' → eqV z' x = false := by
  cases a with
  | int i =>
    obtain ⟨ns, e, h9⟩ := Option.bind_eq_some_iff.mp (show (intsOf ds).bind (fun ns => findI (fun x => decide (x = i)) ns) = some j from h)
    have := intsOf_some e
    subst this
    have ev := rl.ints
    subst ev
    cases (show x = .int i from ra)
    obtain ⟨⟨z, h1, h2⟩, h3⟩ := findI_some h9
    refine ⟨rfl, all_flatI _, ⟨.int z, by rw [List.getElem?_map, h1]; rfl, ?_⟩, fun m z' hm hz => ?_⟩
    · have e2 := of_decide_eq_true h2
      subst e2
      simp [eqV]
    · rw [List.getElem?_map] at hz
      obtain ⟨y, hy, rfl⟩ := Option.map_eq_some_iff.mp hz
      have := of_decide_eq_false (h3 m y hm hy)
      simp [eqV, this]
  | str i =>
    obtain ⟨ns, e, h9⟩ := Option.bind_eq_some_iff.mp (show (strsOf ds).bind (fun ns => findI (fun x => decide (x = i)) ns) = some j from h)
    have := strsOf_some e
    subst this
    have ev := rl.strs
    subst ev
    cases (show x = .str i from ra)
    obtain ⟨⟨z, h1, h2⟩, h3⟩ := findI_some h9
    refine ⟨rfl, all_flatS _, ⟨.str z, by rw [List.getElem?_map, h1]; rfl, ?_⟩, fun m z' hm hz => ?_⟩
    · have e2 := of_decide_eq_true h2
      subst e2
      simp [eqV]
    · rw [List.getElem?_map] at hz
      obtain ⟨y, hy, rfl⟩ := Option.map_eq_some_iff.mp hz
      have := of_decide_eq_false (h3 m y hm hy)
      simp [eqV, this]
  | bool i =>
    obtain ⟨ns, e, h9⟩ := Option.bind_eq_some_iff.mp (show (boolsOf ds).bind (fun ns => findI (fun y => y == i) ns) = some j from h)
    have := boolsOf_some e
    subst this
    have ev := rl.bls
    subst ev
    cases (show x = .bl i from ra)
    obtain ⟨⟨z, h1, h2⟩, h3⟩ := findI_some h9
    refine ⟨rfl, all_flatB _, ⟨.bl z, by rw [List.getElem?_map, h1]; rfl, h2⟩, fun m z' hm hz => ?_⟩
    rw [List.getElem?_map] at hz
    obtain ⟨y, hy, rfl⟩ := Option.map_eq_some_iff.mp hz
    exact h3 m y hm hy
  | none => cases h
  | list _ => cases h
  | tuple _ => cases h
  | dict _ => cases h
def lstB {α : Type} (d : D) (k : List D → Rs α) : Rs α := match d with
  | .list ds => k ds
  | _ => .bad
def eIndex (fo : Ev → Rs D) (fr : Ev → Rs (List D)) : Ev → Rs D := fun ev => (fo ev).bind fun a => lstB a fun ds => (fr ev).bind fun r => opIndex ds r
theorem rsN_run {Z : Wh} {H0 H : Hp} {o : Option Nat} {Q : VK} (s : Same H0 H) (p : PostE Z H0 H (rsN o) Q) : ∃ b : Nat, o = some b ∧ Q (.int b) H := by
  cases o with
  | none => exact p.elim
  | some b => exact ⟨b, rfl, PostE.now (d := .int b) s p rfl⟩
theorem se_index {apos : Pos} (ho : SE X E o fo) (ha : SA X E (e :: es) fr)
    (hbase : attributeBase o "index" X.env (eval o X.env) = eval o X.env := by rfl)
    (hfew : ((backTo pos (starEach (e :: es) X.env)).all (fun x => !x.1) && (backToKw pos (keywordEach [] X.env)).all (fun x => x.1.isSome)
      && decide ((e :: es).length + ([] : List Keyword).length + (if ([] : List Keyword).isEmpty then 0 else 1) < 30)) = true := by rfl)
    (hline : (apos.endLine == pos.line) = true := by rfl) (hs : starEach (e :: es) X.env = (false, eval e X.env) :: starEach es X.env := by rfl) (hplain : (backTo pos (starEach es X.env)).any (·.1) = false := by rfl) :
    SE X E (.Call (.Attribute o "index" apos) (e :: es) [] pos) (eIndex fo fr) := by
  refine PE.weak (pe_bm PySem.F.plainAttrs_list PySem.F.slot_list_index PySem.F.type_list_index mt_index ho ha hbase hfew hline hs hplain) fun σ H Q q => ?_
  obtain ⟨H0, ev, s, rv, p⟩ := q
  refine ⟨H0, ev, s, rv, ?_⟩
  unfold eIndex at p
  cases ea : fo ev with
  | bad => rw [ea] at p; exact p
  | exc x => rw [ea] at p; exact p
  | ok d =>
    rw [ea] at p
    intro v H1 H' x1 r1
    cases d with
    | list ds =>
      obtain ⟨l, vs, rfl, h1, h2⟩ := r1
      refine ⟨.inl ⟨rfl, vs, x1.c.seq h1⟩, ?_⟩
      refine ⟨H1, ev, x1.c, rv.mono x1.a, ?_⟩
      have p := p.step x1
      simp only [Rs.ok_bind, lstB] at p
      cases eb : fr ev with
      | bad => rw [eb] at p; exact p
      | exc x => rw [eb] at p; exact p
      | ok as =>
        rw [eb] at p
        intro ws H2 H'' x2 r2
        have p := p.step x2
        simp only [Rs.ok_bind] at p
        unfold opIndex at p
        split at p
        · rename_i d
          obtain ⟨j, ej, q⟩ := rsN_run x2.c p
          obtain ⟨w', rfl, rw'⟩ := r2.one
          obtain ⟨f1, f2, ⟨z, z1, z2⟩, f3⟩ := ixB_run rw' (h2.mono x2.a) ej
          exact ⟨l, vs, w', j, z, rfl, rfl, (x1.c.trans x2.b).seq h1, f1, f2, z1, z2, f3, q⟩
        · exact p.elim
    | _ => exact p.elim
end
end Sk

namespace Sk
open PySem PySem.Spec PyProof.Rows L2
/-- the locals: not known, shared data, a list or dict that this def alone holds, a list of lists that it alone holds -/
inductive Sl where
  | un | sh (d : D) | ow (d : D) | on (dss : List (List D))
abbrev SEnv := List Sl
def onD (dss : List (List D)) : D := .list (dss.map .list)
def Sl.hid : Sl → Option D
  | .sh d => some d
  | .ow _ => none
  | .on _ => none
  | .un => none
def Sl.all : Sl → Option D
  | .sh d => some d
  | .ow d => some d
  | .on dss => some (onD dss)
  | .un => none
def Sl.frz : Sl → Sl
  | .ow d => .sh d
  | .sh d => .sh d
  | .on dss => .sh (onD dss)
  | .un => .un
def hidV (env : SEnv) : Ev := env.map Sl.hid
def allV (env : SEnv) : Ev := env.map Sl.all
def frzV (env : SEnv) : SEnv := env.map Sl.frz
theorem hid_frz (env : SEnv) : hidV (frzV env) = allV env := by
  unfold hidV frzV allV
  rw [List.map_map]
  refine List.map_congr_left fun s _ => ?_
  cases s <;> rfl
/-- the inner lists -/
def NsL (K : PySem.W.Frag) (H0 H : Hp) : List (List D) → List Addr → Prop
  | [], qs => qs = []
  | ds :: r, qs => ∃ q t, qs = q :: t ∧ (∃ vs, H q = some (.lst vs) ∧ RpL K H0 ds vs) ∧ NsL K H0 H r t
structure OwN (K : PySem.W.Frag) (H0 H : Hp) (dss : List (List D)) (p : Addr) (ps : List Addr) : Prop where
  o : H p = some (.lst (ps.map V.ref))
  nd : (p :: ps).Nodup
  it : NsL K H0 H dss ps
section
variable {K : PySem.W.Frag} {H0 H H0' H' : Hp}
theorem NsL.mono (s0 : Same H0 H0') (s : Same H H') : ∀ {dss : List (List D)} {ps : List Addr}, NsL K H0 H dss ps → NsL K H0' H' dss ps
  | [], ps, h => h
  | ds :: r, ps, h => by
    obtain ⟨q, t, e, ⟨vs, h1, h2⟩, h3⟩ := h
    exact ⟨q, t, e, ⟨vs, s _ _ h1, h2.mono s0⟩, NsL.mono s0 s h3⟩
theorem NsL.mem : ∀ {dss : List (List D)} {ps : List Addr}, NsL K H0 H dss ps → ∀ q ∈ ps, ∃ vs, H q = some (.lst vs)
  | [], ps, h, q, hq => by
    have h : ps = [] := h
    subst h; cases hq
  | ds :: r, ps, h, q, hq => by
    obtain ⟨q', t, rfl, ⟨vs, h1, h2⟩, h3⟩ := h
    rcases List.mem_cons.mp hq with rfl | hq
    · exact ⟨vs, h1⟩
    · exact NsL.mem h3 q hq
theorem NsL.len : ∀ {dss : List (List D)} {ps : List Addr}, NsL K H0 H dss ps → ps.length = dss.length
  | [], ps, h => by
    have h : ps = [] := h
    subst h; rfl
  | ds :: r, ps, h => by
    obtain ⟨q', t, rfl, _, h3⟩ := h
    simp only [List.length_cons, NsL.len h3]
theorem NsL.get : ∀ {dss : List (List D)} {ps : List Addr} {i : Nat} {ds : List D}, NsL K H0 H dss ps → dss[i]? = some ds → ∃ q vs, ps[i]? = some q ∧ H q = some (.lst vs) ∧ RpL K H0 ds vs
  | [], ps, i, ds, h, e => by simp at e
  | x :: r, ps, 0, ds, h, e => by
    obtain ⟨q, t, rfl, ⟨vs, h1, h2⟩, h3⟩ := h
    simp only [List.getElem?_cons_zero, Option.some.injEq] at e
    subst e
    exact ⟨q, vs, rfl, h1, h2⟩
  | x :: r, ps, i + 1, ds, h, e => by
    obtain ⟨q, t, rfl, _, h3⟩ := h
    exact NsL.get (i := i) h3 e
/-- what happens elsewhere -/
theorem NsL.stay : ∀ {dss : List (List D)} {ps : List Addr}, NsL K H0 H dss ps → (∀ q ∈ ps, H' q = H q) → NsL K H0 H' dss ps
  | [], ps, h, _ => h
  | x :: r, ps, h, e => by
    obtain ⟨q, t, rfl, ⟨vs, h1, h2⟩, h3⟩ := h
    exact ⟨q, t, rfl, ⟨vs, (e q List.mem_cons_self).trans h1, h2⟩, NsL.stay h3 fun y hy => e y (List.mem_cons_of_mem _ hy)⟩
theorem NsL.set : ∀ {dss : List (List D)} {ps : List Addr} {i : Nat} {q : Addr} {ds : List D} {vs : List V}, NsL K H0 H dss ps → ps.Nodup → ps[i]? = some q → RpL K H0 ds vs → NsL K H0 (upd H q (.lst vs)) (dss.set i ds) ps
  | [], ps, i, q, ds, vs, h, _, e, _ => by
    have h : ps = [] := h
    subst h; simp at e
  | x :: r, ps, 0, q, ds, vs, h, nd, e, hr => by
    obtain ⟨q', t, rfl, ⟨ws, h1, h2⟩, h3⟩ := h
    simp only [List.getElem?_cons_zero, Option.some.injEq] at e
    subst e
    refine ⟨q', t, rfl, ⟨vs, upd_same, hr⟩, NsL.stay h3 fun y hy => upd_ne fun z => ?_⟩
    subst z
    exact (List.nodup_cons.mp nd).1 hy
  | x :: r, ps, i + 1, q, ds, vs, h, nd, e, hr => by
    obtain ⟨q', t, rfl, ⟨ws, h1, h2⟩, h3⟩ := h
    simp only [List.getElem?_cons_succ] at e
    refine ⟨q', t, rfl, ⟨ws, ?_, h2⟩, NsL.set h3 (List.nodup_cons.mp nd).2 e hr⟩
    have hm := List.mem_of_getElem? e
    rw [upd_ne (fun z => by subst z; exact (List.nodup_cons.mp nd).1 hm)]
    exact h1
theorem NsL.rp : ∀ {dss : List (List D)} {ps : List Addr}, NsL K H0 H dss ps → Same H0 H0' → (∀ q ∈ ps, H0' q = H q) → RpL K H0' (dss.map .list) (ps.map V.ref)
  | [], ps, h, _, _ => by
    have h : ps = [] := h
    subst h; rfl
  | x :: r, ps, h, s, e => by
    obtain ⟨q, t, rfl, ⟨vs, h1, h2⟩, h3⟩ := h
    exact ⟨.ref q, t.map V.ref, rfl, ⟨q, vs, rfl, SqL.of ((e q List.mem_cons_self).trans h1), h2.mono s⟩, NsL.rp h3 s fun y hy => e y (List.mem_cons_of_mem _ hy)⟩
theorem OwN.mono {dss : List (List D)} {p : Addr} {ps : List Addr} (h : OwN K H0 H dss p ps) (s0 : Same H0 H0') (s : Same H H') : OwN K H0' H' dss p ps := ⟨s _ _ h.o, h.nd, h.it.mono s0 s⟩
theorem refs_inj {ps qs : List Addr} (h : ps.map V.ref = qs.map V.ref) : ps = qs := List.map_inj_right (fun a b e => by injection e) |>.mp h
end
/-- the objects that a slot's value holds -/
def Ft (H : Hp) : Sl → Option (Option V) → Addr → Prop
  | .ow _, v, b => v = some (some (.ref b))
  | .on _, v, b => ∃ p ps, v = some (some (.ref p)) ∧ H p = some (.lst (ps.map V.ref)) ∧ b ∈ p :: ps
  | .sh _, _, _ => False
  | .un, _, _ => False
structure Stt (K : PySem.W.Frag) (B0 B H0 H : Hp) (σ : L2.St) (env : SEnv) : Prop where
  x : Ex2 B0 B H0 H
  len : env.length = σ.length
  sh : ∀ (i : Nat) (d : D), env[i]? = some (.sh d) → ∃ v, σ[i]? = some (some v) ∧ Rp K H0 d v
  ow : ∀ (i : Nat) (d : D), env[i]? = some (.ow d) → ∃ p, σ[i]? = some (some (.ref p)) ∧ H0 p = none ∧ B p = none ∧ OwA K H0 H d p
  on : ∀ (i : Nat) (dss : List (List D)), env[i]? = some (.on dss) → ∃ p ps, σ[i]? = some (some (.ref p)) ∧ OwN K H0 H dss p ps ∧ ∀ q ∈ p :: ps, H0 q = none ∧ B q = none
  ne : ∀ (i j : Nat) (s t : Sl) (b : Addr), env[i]? = some s → env[j]? = some t → Ft H s σ[i]? b → Ft H t σ[j]? b → i = j
section
variable {K : PySem.W.Frag} {B0 B H0 H H0' H' : Hp} {σ : L2.St} {env : SEnv}
theorem OwA.mono {d : D} {p : Addr} (h : OwA K H0 H d p) (s0 : Same H0 H0') (s : Same H H') : OwA K H0' H' d p := by
  rcases h with ⟨ds, vs, rfl, e, r⟩ | ⟨ps, rfl, e⟩
  · exact .inl ⟨ds, vs, rfl, s _ _ e, r.mono s0⟩
  · exact .inr ⟨ps, rfl, s _ _ e⟩
theorem Stt.same (S : Stt K B0 B H0 H σ env) : Same H0 H := S.x.c
theorem Stt.hid (S : Stt K B0 B H0 H σ env) : RpV K H0 σ (hidV env) := by
  refine ⟨by unfold hidV; rw [List.length_map]; exact S.len, fun i d e => ?_⟩
  unfold hidV at e
  rw [List.getElem?_map] at e
  obtain ⟨s, hs, e⟩ := Option.map_eq_some_iff.mp e
  cases s with
  | sh d' => cases e; exact S.sh i _ hs
  | ow _ => cases e
  | on _ => cases e
  | un => cases e
/-- a slot's objects are there -/
theorem Stt.ft_some (S : Stt K B0 B H0 H σ env) {i : Nat} {s : Sl} {b : Addr} (hs : env[i]? = some s) (h : Ft H s σ[i]? b) : H0 b = none ∧ B b = none ∧ ((∃ vs, H b = some (.lst vs)) ∨ ∃ ps, H b = some (.dT (dkv ps))) := by
  cases s with
  | sh d => exact h.elim
  | un => exact h.elim
  | ow d =>
    obtain ⟨p, h1, h2, h3, h4⟩ := S.ow i d hs
    have h : σ[i]? = some (some (.ref b)) := h
    rw [h1] at h
    cases h
    refine ⟨h2, h3, ?_⟩
    rcases h4 with ⟨ds, vs, rfl, e, r⟩ | ⟨ps, rfl, e⟩
    · exact .inl ⟨_, e⟩
    · exact .inr ⟨_, e⟩
  | on dss =>
    obtain ⟨p, ps, h1, h2, h3⟩ := S.on i dss hs
    obtain ⟨p', ps', e1, e2, e3⟩ := h
    rw [h1] at e1
    cases e1
    have e4 := h2.o.symm.trans e2
    injection e4 with e4
    injection e4 with e4
    have := refs_inj e4
    subst this
    obtain ⟨n1, n2⟩ := h3 b e3
    refine ⟨n1, n2, .inl ?_⟩
    rcases List.mem_cons.mp e3 with rfl | e3
    · exact ⟨_, h2.o⟩
    · exact h2.it.mem b e3
theorem Stt.ft_back (S : Stt K B0 B H0 H σ env) (t : Same H H') {i : Nat} {s : Sl} {b : Addr} (hs : env[i]? = some s) (h : Ft H' s σ[i]? b) : Ft H s σ[i]? b := by
  cases s with
  | sh d => exact h
  | un => exact h
  | ow d => exact h
  | on dss =>
    obtain ⟨p, ps, h1, h2, h3⟩ := S.on i dss hs
    obtain ⟨p', ps', e1, e2, e3⟩ := h
    rw [h1] at e1
    cases e1
    have e4 := (t _ _ h2.o).symm.trans e2
    injection e4 with e4
    injection e4 with e4
    have := refs_inj e4
    subst this
    exact ⟨p, ps, h1, h2.o, e3⟩
theorem Stt.grow (S : Stt K B0 B H0 H σ env) (y : Ex2 H0 H H0' H') : Stt K B0 B H0' H' σ env := by
  refine ⟨S.x.trans y, S.len, fun i d e => ?_, fun i d e => ?_, fun i dss e => ?_, fun i j s t b hi hj f1 f2 => S.ne i j s t b hi hj (S.ft_back y.b hi f1) (S.ft_back y.b hj f2)⟩
  · obtain ⟨v, h1, h2⟩ := S.sh i d e
    exact ⟨v, h1, h2.mono y.a⟩
  · obtain ⟨p, h1, h2, h3, h4⟩ := S.ow i d e
    obtain ⟨o, ho⟩ := h4.some
    exact ⟨p, h1, (y.d p o ho).trans h2, h3, h4.mono y.a y.b⟩
  · obtain ⟨p, ps, h1, h2, h3⟩ := S.on i dss e
    refine ⟨p, ps, h1, h2.mono y.a y.b, fun q hq => ?_⟩
    obtain ⟨n1, n2⟩ := h3 q hq
    refine ⟨?_, n2⟩
    rcases List.mem_cons.mp hq with rfl | hq
    · exact (y.d q _ h2.o).trans n1
    · obtain ⟨vs, hv⟩ := h2.it.mem q hq
      exact (y.d q _ hv).trans n1
theorem Ex2.up (s : Same H0 H) (t : Same H H') : Ex2 H0 H H0 H' := ⟨Same.refl _, t, s.trans t, fun _ _ _ => rfl⟩
theorem Stt.up (S : Stt K B0 B H0 H σ env) (t : Same H H') : Stt K B0 B H0 H' σ env := S.grow (.up S.same t)
def Own (H : Hp) (σ : L2.St) (env : SEnv) (b : Addr) : Prop := ∃ (i : Nat) (s : Sl), env[i]? = some s ∧ Ft H s σ[i]? b
open Classical in
noncomputable def bor (H0 H : Hp) (σ : L2.St) (env : SEnv) : Hp := fun b => if Own H σ env b then H b else H0 b
open Classical in
/-- G without what is held (the held ones read in H) -/
noncomputable def cutO (G H : Hp) (σ : L2.St) (env : SEnv) : Hp := fun b => if Own H σ env b then none else G b
theorem bor_own {b : Addr} (h : Own H σ env b) : bor H0 H σ env b = H b := by unfold bor; rw [if_pos h]
theorem bor_not {b : Addr} (h : ¬ Own H σ env b) : bor H0 H σ env b = H0 b := by unfold bor; rw [if_neg h]
theorem cut_own {G : Hp} {b : Addr} (h : Own H σ env b) : cutO G H σ env b = none := by unfold cutO; rw [if_pos h]
theorem cut_not {G : Hp} {b : Addr} (h : ¬ Own H σ env b) : cutO G H σ env b = G b := by unfold cutO; rw [if_neg h]
theorem Stt.own (S : Stt K B0 B H0 H σ env) {b : Addr} (h : Own H σ env b) : H0 b = none ∧ B b = none ∧ ((∃ vs, H b = some (.lst vs)) ∨ ∃ ps, H b = some (.dT (dkv ps))) := by
  obtain ⟨i, s, e1, e2⟩ := h
  exact S.ft_some e1 e2
theorem Stt.own_some (S : Stt K B0 B H0 H σ env) {b : Addr} (h : Own H σ env b) : ∃ o, H b = some o := by
  rcases (S.own h).2.2 with ⟨vs, e⟩ | ⟨ps, e⟩
  · exact ⟨_, e⟩
  · exact ⟨_, e⟩
theorem Stt.not_own (S : Stt K B0 B H0 H σ env) {b : Addr} {o : HO} (h : H0 b = some o) : ¬ Own H σ env b := fun z => by
  have := (S.own z).1
  rw [this] at h; cases h
theorem Stt.s_bor (S : Stt K B0 B H0 H σ env) : Same H0 (bor H0 H σ env) := fun b o e => by rw [bor_not (S.not_own e)]; exact e
theorem Stt.bor_s (S : Stt K B0 B H0 H σ env) : Same (bor H0 H σ env) H := fun b o e => by
  by_cases c : Own H σ env b
  · rw [bor_own c] at e; exact e
  · rw [bor_not c] at e; exact S.same _ _ e
theorem frz_hid {env : SEnv} {i : Nat} {s : Sl} (e : (frzV env)[i]? = some s) (h : ∀ d, s ≠ .sh d) : s = .un := by
  unfold frzV at e
  rw [List.getElem?_map] at e
  obtain ⟨t, ht, rfl⟩ := Option.map_eq_some_iff.mp e
  cases t <;> first | rfl | exact absurd rfl (h _)
theorem Stt.frzAll (S : Stt K B0 B H0 H σ env) : Stt K B0 B (bor H0 H σ env) H σ (frzV env) := by
  refine ⟨⟨S.x.a.trans S.s_bor, S.x.b, S.bor_s, fun p o e => ?_⟩, by unfold frzV; rw [List.length_map]; exact S.len, fun i d e => ?_, fun i d e => Sl.noConfusion (frz_hid e fun _ z => Sl.noConfusion z), fun i d e => Sl.noConfusion (frz_hid e fun _ z => Sl.noConfusion z), fun i j s t b h _ f _ => ?_⟩
  · by_cases c : Own H σ env p
    · have := (S.own c).2.1
      rw [this] at e; cases e
    · rw [bor_not c]; exact S.x.d p o e
  · unfold frzV at e
    rw [List.getElem?_map] at e
    obtain ⟨s, hs, e⟩ := Option.map_eq_some_iff.mp e
    cases s with
    | sh d' =>
      cases e
      obtain ⟨v, h1, h2⟩ := S.sh i d hs
      exact ⟨v, h1, h2.mono S.s_bor⟩
    | ow d' =>
      cases e
      obtain ⟨p, h1, h2, h3, h4⟩ := S.ow i d hs
      obtain ⟨o, ho⟩ := h4.some
      exact ⟨.ref p, h1, h4.rp S.same ⟨o, by rw [bor_own ⟨i, _, hs, h1⟩]; exact ho, ho⟩ S.s_bor⟩
    | on dss =>
      cases e
      obtain ⟨p, ps, h1, h2, h3⟩ := S.on i dss hs
      have own : ∀ q ∈ p :: ps, bor H0 H σ env q = H q := fun q hq => bor_own ⟨i, _, hs, p, ps, h1, h2.o, hq⟩
      exact ⟨.ref p, h1, p, ps.map V.ref, rfl, SqL.of ((own p List.mem_cons_self).trans h2.o), h2.it.rp S.s_bor fun q hq => own q (List.mem_cons_of_mem _ hq)⟩
    | un => cases e
  · unfold frzV at h
    rw [List.getElem?_map] at h
    obtain ⟨t, ht, rfl⟩ := Option.map_eq_some_iff.mp h
    cases t <;> exact f.elim
theorem Stt.allv (S : Stt K B0 B H0 H σ env) : RpV K (bor H0 H σ env) σ (allV env) := by
  have h := S.frzAll.hid
  rw [hid_frz] at h
  exact h

/-! flat data: no list, no dict in it -/
mutual
def flat : D → Bool
  | .list _ => false
  | .dict _ => false
  | .tuple ds => flatL ds
  | .none => true
  | .bool _ => true
  | .int _ => true
  | .str _ => true
def flatL : List D → Bool
  | [] => true
  | d :: ds => flat d && flatL ds
end
mutual
theorem Rp.flat_of (h : ∀ (a : Addr) (vs : List V), Rd H a (.tup vs) → Rd H' a (.tup vs)) : ∀ {d : D} {v : V}, flat d = true → Rp K H d v → Rp K H' d v
  | .none, v, _, r => r
  | .bool _, v, _, r => r
  | .int _, v, _, r => r
  | .str _, v, _, r => r
  | .list _, v, f, r => by simp [flat] at f
  | .dict _, v, f, r => by simp [flat] at f
  | .tuple ds, v, f, r => by
    obtain ⟨a, vs, e, s, l⟩ := r
    refine ⟨a, vs, e, ?_, RpL.flat_of h (by simpa [flat] using f) l⟩
    rcases s with s | s
    · exact .inl (h _ _ s)
    · exact .inr s
theorem RpL.flat_of (h : ∀ (a : Addr) (vs : List V), Rd H a (.tup vs) → Rd H' a (.tup vs)) : ∀ {ds : List D} {vs : List V}, flatL ds = true → RpL K H ds vs → RpL K H' ds vs
  | [], vs, _, r => r
  | d :: ds, vs, f, r => by
    obtain ⟨v, w, e, h1, h2⟩ := r
    have f' : flat d = true ∧ flatL ds = true := by simpa [flatL] using f
    exact ⟨v, w, e, Rp.flat_of h f'.1 h1, RpL.flat_of h f'.2 h2⟩
end
/-- behind a reading of everything: the held ones are taken out of the base again -/
theorem Stt.back {Hb : Hp} (S : Stt K B0 B H0 H σ env) (y : Ex2 (bor H0 H σ env) H Hb H') :
    Ex2 H0 H (cutO Hb H σ env) H' ∧ ∀ (a : Addr) (vs : List V), Rd Hb a (.tup vs) → Rd (cutO Hb H σ env) a (.tup vs) := by
  have key : ∀ b, Own H σ env b → Hb b = H b := fun b c => by
    obtain ⟨o, ho⟩ := S.own_some c
    rw [y.d b o ho, bor_own c]
  refine ⟨⟨fun b o e => ?_, y.b, fun b o e => ?_, fun p o e => ?_⟩, fun a vs r => ?_⟩
  · rw [cut_not (S.not_own e)]
    exact y.a _ _ (S.s_bor _ _ e)
  · by_cases c : Own H σ env b
    · rw [cut_own c] at e; cases e
    · rw [cut_not c] at e; exact y.c _ _ e
  · by_cases c : Own H σ env p
    · rw [cut_own c]; exact ((S.own c).1).symm
    · rw [cut_not c, y.d p o e, bor_not c]
  · have no : ¬ Own H σ env a := fun c => by
      have hk := key a c
      rcases (S.own c).2.2 with ⟨ws, e⟩ | ⟨ps, e⟩
      · rw [e] at hk
        rcases r with r | ⟨o, r⟩
        · rw [hk] at r; cases r
        · rw [hk] at r; cases r
      · rw [e] at hk
        rcases r with r | ⟨o, r⟩
        · rw [hk] at r; cases r
        · rw [hk] at r; cases r
    rcases r with r | ⟨o, r⟩
    · exact .inl (by rw [cut_not no]; exact r)
    · exact .inr ⟨o, by rw [cut_not no]; exact r⟩
theorem get_set {α : Type} {l : List α} {i j : Nat} {a b : α} (h : (l.set i a)[j]? = some b) : (i = j ∧ j < l.length ∧ a = b) ∨ (i ≠ j ∧ l[j]? = some b) := by
  rw [List.getElem?_set] at h
  by_cases c : i = j
  · rw [if_pos c] at h
    by_cases c2 : i < l.length
    · rw [if_pos c2] at h
      exact .inl ⟨c, c ▸ c2, Option.some.inj h⟩
    · rw [if_neg c2] at h; cases h
  · rw [if_neg c] at h
    exact .inr ⟨c, h⟩
theorem Stt.set_sh (S : Stt K B0 B H0 H σ env) {d : D} {v : V} (i : Nat) (r : Rp K H0 d v) : Stt K B0 B H0 H (σ.set i (some v)) (env.set i (.sh d)) := by
  have keep : ∀ {j : Nat}, i ≠ j → (σ.set i (some v))[j]? = σ[j]? := fun h => List.getElem?_set_ne h
  refine ⟨S.x, by rw [List.length_set, List.length_set]; exact S.len, fun j e hj => ?_, fun j e hj => ?_, fun j e hj => ?_, fun j k s t b hj hk h1 h2 => ?_⟩
  · rcases get_set hj with ⟨rfl, hl, e1⟩ | ⟨hne, hj⟩
    · cases e1
      exact ⟨v, List.getElem?_set_self (by rw [← S.len]; exact hl), r⟩
    · rw [keep hne]; exact S.sh j e hj
  · rcases get_set hj with ⟨rfl, hl, e1⟩ | ⟨hne, hj⟩
    · cases e1
    · rw [keep hne]; exact S.ow j e hj
  · rcases get_set hj with ⟨rfl, hl, e1⟩ | ⟨hne, hj⟩
    · cases e1
    · rw [keep hne]; exact S.on j e hj
  · rcases get_set hj with ⟨rfl, hl, e1⟩ | ⟨hne, hj⟩
    · subst e1; exact h1.elim
    · rcases get_set hk with ⟨rfl, hl, e1⟩ | ⟨hne2, hk⟩
      · subst e1; exact h2.elim
      · rw [keep hne] at h1
        rw [keep hne2] at h2
        exact S.ne j k s t b hj hk h1 h2
theorem Stt.set_ow (S : Stt K B0 B H0 H σ env) (y : Ex2 H0 H H0' H') {d : D} {p : Addr} (i : Nat) (n : H p = none) (n0 : H0' p = none) (r : OwA K H0' H' d p) : Stt K B0 B H0' H' (σ.set i (some (.ref p))) (env.set i (.ow d)) := by
  have T := S.grow y
  have keep : ∀ {j : Nat}, i ≠ j → (σ.set i (some (.ref p)))[j]? = σ[j]? := fun h => List.getElem?_set_ne h
  have apart : ∀ (j : Nat) (s : Sl), env[j]? = some s → ¬ Ft H' s σ[j]? p := fun j s hj hp => by
    have h9 := (S.ft_some hj (S.ft_back y.b hj hp)).2.2
    rcases h9 with ⟨vs, e⟩ | ⟨ps, e⟩
    · rw [n] at e; cases e
    · rw [n] at e; cases e
  refine ⟨T.x, by rw [List.length_set, List.length_set]; exact S.len, fun j e hj => ?_, fun j e hj => ?_, fun j e hj => ?_, fun j k s t b hj hk h1 h2 => ?_⟩
  · rcases get_set hj with ⟨rfl, hl, e1⟩ | ⟨hne, hj⟩
    · cases e1
    · rw [keep hne]; exact T.sh j e hj
  · rcases get_set hj with ⟨rfl, hl, e1⟩ | ⟨hne, hj⟩
    · cases e1
      exact ⟨p, List.getElem?_set_self (by rw [← S.len]; exact hl), n0, S.x.b.free n, r⟩
    · rw [keep hne]; exact T.ow j e hj
  · rcases get_set hj with ⟨rfl, hl, e1⟩ | ⟨hne, hj⟩
    · cases e1
    · rw [keep hne]; exact T.on j e hj
  · rcases get_set hj with ⟨rfl, hl, e1⟩ | ⟨hne, hj⟩
    · rcases get_set hk with ⟨rfl, _, _⟩ | ⟨hne2, hk⟩
      · rfl
      · subst e1
        have h1 : (σ.set i (some (.ref p)))[i]? = some (some (.ref b)) := h1
        rw [List.getElem?_set_self (by rw [← S.len]; exact hl)] at h1
        cases h1
        rw [keep hne2] at h2
        exact (apart k t hk h2).elim
    · rcases get_set hk with ⟨rfl, hl, e1⟩ | ⟨hne2, hk⟩
      · subst e1
        have h2 : (σ.set i (some (.ref p)))[i]? = some (some (.ref b)) := h2
        rw [List.getElem?_set_self (by rw [← S.len]; exact hl)] at h2
        cases h2
        rw [keep hne] at h1
        exact (apart j s hj h1).elim
      · rw [keep hne] at h1
        rw [keep hne2] at h2
        exact T.ne j k s t b hj hk h1 h2
/-- a new list of lists goes into slot i -/
theorem Stt.set_on (S : Stt K B0 B H0 H σ env) (y : Ex2 H0 H H0' H') {dss : List (List D)} {p : Addr} {ps : List Addr} (i : Nat) (n : ∀ q ∈ p :: ps, H q = none ∧ H0' q = none) (r : OwN K H0' H' dss p ps) : Stt K B0 B H0' H' (σ.set i (some (.ref p))) (env.set i (.on dss)) := by
  have T := S.grow y
  have keep : ∀ {j : Nat}, i ≠ j → (σ.set i (some (.ref p)))[j]? = σ[j]? := fun h => List.getElem?_set_ne h
  have apart : ∀ (j : Nat) (s : Sl) (b : Addr), b ∈ p :: ps → env[j]? = some s → ¬ Ft H' s σ[j]? b := fun j s b hb hj hp => by
    have h9 := (S.ft_some hj (S.ft_back y.b hj hp)).2.2
    rcases h9 with ⟨vs, e⟩ | ⟨ps, e⟩
    · rw [(n b hb).1] at e; cases e
    · rw [(n b hb).1] at e; cases e
  have mine : ∀ {b : Addr} {v : Option (Option V)}, v = some (some (.ref p)) → Ft H' (.on dss) v b → b ∈ p :: ps := fun {b v} hv h => by
    obtain ⟨p', ps', e1, e2, e3⟩ := h
    rw [hv] at e1
    cases e1
    have e4 := r.o.symm.trans e2
    injection e4 with e4
    injection e4 with e4
    have := refs_inj e4
    subst this
    exact e3
  refine ⟨T.x, by rw [List.length_set, List.length_set]; exact S.len, fun j e hj => ?_, fun j e hj => ?_, fun j e hj => ?_, fun j k s t b hj hk h1 h2 => ?_⟩
  · rcases get_set hj with ⟨rfl, hl, e1⟩ | ⟨hne, hj⟩
    · cases e1
    · rw [keep hne]; exact T.sh j e hj
  · rcases get_set hj with ⟨rfl, hl, e1⟩ | ⟨hne, hj⟩
    · cases e1
    · rw [keep hne]; exact T.ow j e hj
  · rcases get_set hj with ⟨rfl, hl, e1⟩ | ⟨hne, hj⟩
    · cases e1
      exact ⟨p, ps, List.getElem?_set_self (by rw [← S.len]; exact hl), r, fun q hq => ⟨(n q hq).2, S.x.b.free (n q hq).1⟩⟩
    · rw [keep hne]; exact T.on j e hj
  · rcases get_set hj with ⟨rfl, hl, e1⟩ | ⟨hne, hj⟩
    · rcases get_set hk with ⟨rfl, _, _⟩ | ⟨hne2, hk⟩
      · rfl
      · subst e1
        have hb := mine (List.getElem?_set_self (by rw [← S.len]; exact hl)) h1
        rw [keep hne2] at h2
        exact (apart k t b hb hk h2).elim
    · rcases get_set hk with ⟨rfl, hl, e1⟩ | ⟨hne2, hk⟩
      · subst e1
        have hb := mine (List.getElem?_set_self (by rw [← S.len]; exact hl)) h2
        rw [keep hne] at h1
        exact (apart j s b hb hj h1).elim
      · rw [keep hne] at h1
        rw [keep hne2] at h2
        exact T.ne j k s t b hj hk h1 h2
/-- elsewhere than at an object of slot i nothing changes -/
theorem Stt.other (S : Stt K B0 B H0 H σ env) {i : Nat} {s : Sl} {q : Addr} {o : HO} (hi : env[i]? = some s) (hq : Ft H s σ[i]? q) {j : Nat} {t : Sl} (hij : i ≠ j) (hj : env[j]? = some t) :
    (∀ b, Ft H t σ[j]? b → b ≠ q) ∧ ∀ b, Ft (upd H q o) t σ[j]? b → Ft H t σ[j]? b := by
  have h1 : ∀ b, Ft H t σ[j]? b → b ≠ q := fun b hb z => hij (by subst z; exact S.ne i j s t b hi hj hq hb)
  refine ⟨h1, fun b hb => ?_⟩
  cases t with
  | sh d => exact hb
  | un => exact hb
  | ow d => exact hb
  | on dss =>
    obtain ⟨p, ps, e1, e2, e3⟩ := S.on j dss hj
    obtain ⟨p', ps', f1, f2, f3⟩ := hb
    rw [e1] at f1
    cases f1
    have ne : p ≠ q := h1 p ⟨p, ps, e1, e2.o, List.mem_cons_self⟩
    rw [upd_ne ne] at f2
    exact ⟨p, ps', e1, f2, f3⟩
/-- slot i's own object q is changed to o; what slot i stands for then is told by hs, hw, hn -/
theorem Stt.change (S : Stt K B0 B H0 H σ env) {i : Nat} {s s' : Sl} {q : Addr} {o : HO} (hi : env[i]? = some s) (hq : Ft H s σ[i]? q) (hs : ∀ d, s' ≠ .sh d)
    (hw : ∀ d, s' = .ow d → ∃ p, σ[i]? = some (some (.ref p)) ∧ H0 p = none ∧ B p = none ∧ OwA K H0 (upd H q o) d p)
    (hn : ∀ dss, s' = .on dss → ∃ p ps, σ[i]? = some (some (.ref p)) ∧ OwN K H0 (upd H q o) dss p ps ∧ ∀ q ∈ p :: ps, H0 q = none ∧ B q = none)
    (hf : ∀ b, Ft (upd H q o) s' σ[i]? b → Ft H s σ[i]? b) : Stt K B0 B H0 (upd H q o) σ (env.set i s') := by
  obtain ⟨n0, nB, _⟩ := S.ft_some hi hq
  refine ⟨⟨S.x.a, same_upd S.x.b nB o, same_upd S.same n0 o, S.x.d⟩, by rw [List.length_set]; exact S.len, fun j e hj => ?_, fun j e hj => ?_, fun j e hj => ?_, fun j k s1 t1 b hj hk a1 a2 => ?_⟩
  · rcases get_set hj with ⟨rfl, hl, e1⟩ | ⟨hne, hj⟩
    · exact absurd e1 (hs e)
    · exact S.sh j e hj
  · rcases get_set hj with ⟨rfl, hl, e1⟩ | ⟨hne, hj⟩
    · exact hw e e1
    · obtain ⟨u, g1, g2, g3, g4⟩ := S.ow j e hj
      have hup : u ≠ q := (S.other (o := o) hi hq hne hj).1 u g1
      refine ⟨u, g1, g2, g3, ?_⟩
      rcases g4 with ⟨ds, vs, rfl, e, r⟩ | ⟨ps, rfl, e⟩
      · exact .inl ⟨ds, vs, rfl, by rw [upd_ne hup]; exact e, r⟩
      · exact .inr ⟨ps, rfl, by rw [upd_ne hup]; exact e⟩
  · rcases get_set hj with ⟨rfl, hl, e1⟩ | ⟨hne, hj⟩
    · exact hn e e1
    · obtain ⟨p, ps, g1, g2, g3⟩ := S.on j e hj
      have hup : ∀ b ∈ p :: ps, b ≠ q := fun b hb => (S.other (o := o) hi hq hne hj).1 b ⟨p, ps, g1, g2.o, hb⟩
      exact ⟨p, ps, g1, ⟨by rw [upd_ne (hup p List.mem_cons_self)]; exact g2.o, g2.nd, g2.it.stay fun b hb => upd_ne (hup b (List.mem_cons_of_mem _ hb))⟩, g3⟩
  · have back : ∀ (j : Nat) (t : Sl), (env.set i s')[j]? = some t → Ft (upd H q o) t σ[j]? b → ∃ t', env[j]? = some t' ∧ Ft H t' σ[j]? b := fun j t hj hb => by
      rcases get_set hj with ⟨rfl, hl, e1⟩ | ⟨hne, hj⟩
      · subst e1; exact ⟨s, hi, hf b hb⟩
      · exact ⟨t, hj, (S.other hi hq hne hj).2 b hb⟩
    obtain ⟨t1', x1, x2⟩ := back j s1 hj a1
    obtain ⟨t2', y1, y2⟩ := back k t1 hk a2
    exact S.ne j k t1' t2' b x1 y1 x2 y2
/-- the held one in slot i is changed -/
theorem Stt.mut (S : Stt K B0 B H0 H σ env) {i : Nat} {d d' : D} {p : Addr} {o : HO} (hi : env[i]? = some (.ow d)) (hp : σ[i]? = some (some (.ref p))) (r : OwA K H0 (upd H p o) d' p) : Stt K B0 B H0 (upd H p o) σ (env.set i (.ow d')) := by
  obtain ⟨q, h1, h2, h3, h4⟩ := S.ow i d hi
  rw [h1] at hp
  cases hp
  exact S.change hi h1 (fun _ z => Sl.noConfusion z) (fun e he => by injection he with he; subst he; exact ⟨p, h1, h2, h3, r⟩) (fun _ z => Sl.noConfusion z) fun b hb => hb
end

/-! ### statements -/
inductive Fl where
  | nx (e : SEnv) | rt (d : D) | bk (e : SEnv) | ct (e : SEnv)
/-- how a def answers: with anything, with a new list or dict, with a new list of new lists -/
inductive Om where
  | e | o | n
def PostR (Z : Wh) (om : Om) (B0 B : Hp) (d : D) (rt : VK) : Prop := match om with
  | .o => ∀ p H0 H, Ex2 B0 B H0 H → B p = none → H0 p = none → OwA Z.K H0 H d p → rt (.ref p) H
  | .e => ∀ v H0 H, Ex2 B0 B H0 H → Rp Z.K H0 d v → rt v H
  | .n => ∃ dss, d = onD dss ∧ ∀ p ps H0 H, Ex2 B0 B H0 H → (∀ q ∈ p :: ps, B q = none ∧ H0 q = none) → OwN Z.K H0 H dss p ps → rt (.ref p) H
def PostS (Z : Wh) (om : Om) (B0 B : Hp) (r : Rs Fl) (Dn : Ends) : Prop := match r with
  | .ok (.nx env) => ∀ σ H0 H, Stt Z.K B0 B H0 H σ env → Dn.nx σ H
  | .ok (.bk env) => ∀ σ H0 H, Stt Z.K B0 B H0 H σ env → Dn.bk σ H
  | .ok (.ct env) => ∀ σ H0 H, Stt Z.K B0 B H0 H σ env → Dn.ct σ H
  | .ok (.rt d) => PostR Z om B0 B d Dn.rt
  | .exc x => ∀ H, Same B H → EX Z.mg Z.E x H
  | .bad => False
def tS (Z : Wh) (om : Om) (fs : SEnv → Rs Fl) : TS := fun Dn σ H => ∃ B0 B H0 env, Stt Z.K B0 B H0 H σ env ∧ PostS Z om B0 B (fs env) Dn
abbrev SS (X : Cx) (E : XK) (om : Om) (st : Stmt) (fs : SEnv → Rs Fl) : Prop := PS X st (tS (zOf X E) om fs)
abbrev SSs (X : Cx) (E : XK) (om : Om) (st : List Stmt) (fs : SEnv → Rs Fl) : Prop := PSs X st (tS (zOf X E) om fs)
/-- the entry's heaps may be greater -/
theorem PostS.step {Z : Wh} {om : Om} {B0 B B0' B' : Hp} {r : Rs Fl} {Dn : Ends} (x : Ex2 B0 B B0' B') (h : PostS Z om B0 B r Dn) : PostS Z om B0' B' r Dn := by
  have st : ∀ {σ H0 H env}, Stt Z.K B0' B' H0 H σ env → Stt Z.K B0 B H0 H σ env := fun {σ H0 H env} S =>
    ⟨x.trans S.x, S.len, S.sh, fun i d e => let ⟨p, h1, h2, h3, h4⟩ := S.ow i d e; ⟨p, h1, h2, x.b.free h3, h4⟩, fun i dss e => let ⟨p, ps, h1, h2, h3⟩ := S.on i dss e; ⟨p, ps, h1, h2, fun q hq => ⟨(h3 q hq).1, x.b.free (h3 q hq).2⟩⟩, S.ne⟩
  cases r with
  | bad => exact h
  | exc e => exact fun H s => h H (x.b.trans s)
  | ok f =>
    cases f with
    | nx env => exact fun σ H0 H S => h σ H0 H (st S)
    | bk env => exact fun σ H0 H S => h σ H0 H (st S)
    | ct env => exact fun σ H0 H S => h σ H0 H (st S)
    | rt d =>
      cases om with
      | o => exact fun p H0 H y n n0 o => h p H0 H (x.trans y) (x.b.free n) n0 o
      | e => exact fun v H0 H y r => h v H0 H (x.trans y) r
      | n =>
        obtain ⟨dss, e, h⟩ := h
        exact ⟨dss, e, fun p ps H0 H y n r => h p ps H0 H (x.trans y) (fun q hq => ⟨x.b.free (n q hq).1, (n q hq).2⟩) r⟩
theorem PostS.excs {Z : Wh} {om : Om} {B0 B H : Hp} {x : String} {Dn : Ends} (h : PostS Z om B0 B (.exc x) Dn) (s : Same B H) : ∀ H', Same H H' → EX Z.mg Z.E x H' := fun H' s' => h H' (s.trans s')

/-! ### the pure statements -/
def sNx : SEnv → Rs Fl := fun env => .ok (.nx env)
def sSq (f g : SEnv → Rs Fl) : SEnv → Rs Fl := fun env => (f env).bind fun r => match r with
  | .nx e => g e
  | .rt d => .ok (.rt d)
  | .bk e => .ok (.bk e)
  | .ct e => .ok (.ct e)
def sIf (c : Ev → Rs Bool) (f g : SEnv → Rs Fl) : SEnv → Rs Fl := fun env => (c (allV env)).bind fun b => if b = true then f env else g env
def sAs (i : Nat) (fe : Ev → Rs D) : SEnv → Rs Fl := fun env => (fe (hidV env)).bind fun d => .ok (.nx (env.set i (.sh d)))
def sAsB (i : Nat) (fe : Ev → Rs D) : SEnv → Rs Fl := fun env => (fe (allV env)).bind fun d => if flat d = true then .ok (.nx (env.set i (.sh d))) else .bad
def sNw (i : Nat) (fe : Ev → Rs D) : SEnv → Rs Fl := fun env => (fe (hidV env)).bind fun d => .ok (.nx (env.set i (.ow d)))
def flatI : D → Bool
  | .list ds => flatL ds
  | _ => false
def sNwB (i : Nat) (fe : Ev → Rs D) : SEnv → Rs Fl := fun env => (fe (allV env)).bind fun d => if flatI d = true then .ok (.nx (env.set i (.ow d))) else .bad
def sEx (fe : Ev → Rs D) : SEnv → Rs Fl := fun env => (fe (allV env)).bind fun _ => .ok (.nx env)
def sRt (fe : Ev → Rs D) : SEnv → Rs Fl := fun env => (fe (allV env)).bind fun d => .ok (.rt d)
def sRtV (i : Nat) : SEnv → Rs Fl := fun env => match env[i]? with
  | some (.ow d) => .ok (.rt d)
  | _ => .bad
def sRaise (x : String) : SEnv → Rs Fl := fun _ => .exc x
def owL {α : Type} (o : Option Sl) (k : List D → Rs α) : Rs α := match o with
  | some (.ow (.list ds)) => k ds
  | _ => .bad
def sAp (i : Nat) (fe : Ev → Rs D) : SEnv → Rs Fl := fun env => owL env[i]? fun ds => (fe (hidV env)).bind fun d => if ds.length ≤ 100000 then .ok (.nx (env.set i (.ow (.list (ds ++ [d]))))) else .bad
def sXt (i : Nat) (fe : Ev → Rs D) : SEnv → Rs Fl := fun env => owL env[i]? fun ds => (fe (hidV env)).bind fun d => lstB d fun es => if ds.length + es.length ≤ 100000 then .ok (.nx (env.set i (.ow (.list (ds ++ es))))) else .bad
def zFA (f : SEnv → Rs Fl) : SEnv → Rs Fl := fun env => f (frzV env)

section
variable {X : Cx} {E : XK} {om : Om} {st : Stmt} {rest body : List Stmt} {f g : SEnv → Rs Fl} {e : Expr} {fe : Ev → Rs D} {pos : Pos}
theorem ss_nil : SSs X E om [] sNx := PSs.weak pss_nil fun Dn σ H ⟨B0, B, H0, env, S, p⟩ => p σ H0 H S
theorem ss_one (h : SS X E om st f) : SSs X E om [st] f := pss_one h
theorem ss_cons (h : SS X E om st f) (t : SSs X E om rest g) : SSs X E om (st :: rest) (sSq f g) := by
  refine PSs.weak (pss_cons h t) fun Dn σ H ⟨B0, B, H0, env, S, p⟩ => ?_
  refine ⟨B0, B, H0, env, S, ?_⟩
  unfold sSq at p
  cases ef : f env with
  | bad => rw [ef] at p; exact p
  | exc x => rw [ef] at p; exact p
  | ok r =>
    rw [ef] at p
    cases r with
    | nx env' => exact fun σ' H0' H' S' => ⟨B0, B, H0', env', S', p⟩
    | rt d => exact p
    | bk env' => exact p
    | ct env' => exact p
theorem ss_pass : SS X E om (.Pass pos) sNx := PS.weak ps_pass fun Dn σ H ⟨B0, B, H0, env, S, p⟩ => p σ H0 H S
theorem ss_frz (h : SS X E om st f) : SS X E om st (zFA f) := PS.weak h fun Dn σ H ⟨B0, B, H0, env, S, p⟩ => ⟨B0, B, _, _, S.frzAll, p⟩
theorem ss_if {c : Expr} {a b : List Stmt} {gc : Ev → Rs Bool} (hc : SB X E c gc) (ha : SSs X E om a f) (hb : SSs X E om b g) : SS X E om (.If c a b pos) (sIf gc f g) := by
  refine PS.weak (ps_if hc ha hb) fun Dn σ H ⟨B0, B, H0, env, S, p⟩ => ?_
  refine ⟨bor H0 H σ env, allV env, S.bor_s, S.allv, ?_⟩
  unfold sIf at p
  cases ef : gc (allV env) with
  | bad => rw [ef] at p; exact p
  | exc x => rw [ef] at p; exact p.excs S.x.b
  | ok k =>
    rw [ef] at p
    intro H' s
    cases k with
    | true => exact ⟨B0, B, H0, env, S.up s, p⟩
    | false => exact ⟨B0, B, H0, env, S.up s, p⟩
theorem PS.asg {i : Nat} {te te' : TE} (h : PS X st (tAsg te (gName i))) (w : ∀ σ H Q, te' σ H Q → te σ H Q) : PS X st (tAsg te' (gName i)) := PS.weak h fun Dn σ H q => w _ _ _ q
theorem ss_as {i : Nat} (h : PS X st (tAsg (tE (zOf X E) fe) (gName i))) : SS X E om st (sAs i fe) := by
  refine PS.weak h fun Dn σ H ⟨B0, B, H0, env, S, p⟩ => ?_
  refine ⟨H0, hidV env, S.same, S.hid, ?_⟩
  unfold sAs at p
  cases ef : fe (hidV env) with
  | bad => rw [ef] at p; exact p
  | exc x => rw [ef] at p; exact p.excs S.x.b
  | ok d =>
    rw [ef] at p
    intro v H0' H' y r
    exact p _ H0' H' ((S.grow y).set_sh i r)
theorem ss_asB {i : Nat} (h : PS X st (tAsg (tE (zOf X E) fe) (gName i))) : SS X E om st (sAsB i fe) := by
  refine PS.weak h fun Dn σ H ⟨B0, B, H0, env, S, p⟩ => ?_
  refine ⟨bor H0 H σ env, allV env, S.bor_s, S.allv, ?_⟩
  unfold sAsB at p
  cases ef : fe (allV env) with
  | bad => rw [ef] at p; exact p
  | exc x => rw [ef] at p; exact p.excs S.x.b
  | ok d =>
    rw [ef] at p
    intro v H0' H' y r
    obtain ⟨y', hf⟩ := S.back y
    by_cases c : flat d = true
    · simp only [Rs.ok_bind, if_pos c] at p
      exact p _ _ H' ((S.grow y').set_sh i (Rp.flat_of hf c r))
    · simp only [Rs.ok_bind, if_neg c] at p
      exact p.elim
theorem ss_nw {i : Nat} (h : PS X st (tAsg (tO (zOf X E) fe) (gName i))) : SS X E om st (sNw i fe) := by
  refine PS.weak h fun Dn σ H ⟨B0, B, H0, env, S, p⟩ => ?_
  refine ⟨H0, hidV env, S.same, S.hid, ?_⟩
  unfold sNw at p
  cases ef : fe (hidV env) with
  | bad => rw [ef] at p; exact p
  | exc x => rw [ef] at p; exact p.excs S.x.b
  | ok d =>
    rw [ef] at p
    intro a H0' H' y n n0 r
    exact p _ H0' H' (S.set_ow y i n n0 r)
theorem ss_nwB {i : Nat} (h : PS X st (tAsg (tO (zOf X E) fe) (gName i))) : SS X E om st (sNwB i fe) := by
  refine PS.weak h fun Dn σ H ⟨B0, B, H0, env, S, p⟩ => ?_
  refine ⟨bor H0 H σ env, allV env, S.bor_s, S.allv, ?_⟩
  unfold sNwB at p
  cases ef : fe (allV env) with
  | bad => rw [ef] at p; exact p
  | exc x => rw [ef] at p; exact p.excs S.x.b
  | ok d =>
    rw [ef] at p
    intro a H0' H' y n n0 r
    obtain ⟨y', hf⟩ := S.back y
    by_cases c : flatI d = true
    · simp only [Rs.ok_bind, if_pos c] at p
      cases d <;> first | (simp [flatI] at c; done) | skip
      case list ds =>
        rcases r with ⟨es, vs, e, h1, h2⟩ | ⟨ps, e, _⟩
        · cases e
          refine p _ _ H' (S.set_ow y' i n ?_ (.inl ⟨ds, vs, rfl, h1, RpL.flat_of hf (by simpa [flatI] using c) h2⟩))
          by_cases co : Own H σ env a
          · exact cut_own co
          · rw [cut_not co]; exact n0
        · cases e
    · simp only [Rs.ok_bind, if_neg c] at p
      exact p.elim
theorem ss_ex (he : SE X E e fe) (hs : swapsWith e none pos.line X.env = pure false := by rfl) : SS X E om (.Expr e pos) (sEx fe) := by
  refine PS.weak (ps_expr he hs) fun Dn σ H ⟨B0, B, H0, env, S, p⟩ => ?_
  refine ⟨bor H0 H σ env, allV env, S.bor_s, S.allv, ?_⟩
  unfold sEx at p
  cases ef : fe (allV env) with
  | bad => rw [ef] at p; exact p
  | exc x => rw [ef] at p; exact p.excs S.x.b
  | ok d =>
    rw [ef] at p
    intro v H0' H' y r
    exact p σ H0 H' (S.up y.b)
theorem ss_doc {x j pos'} : SS X E om (.Expr (.Constant (.str x) j pos) pos') sNx := PS.weak ps_doc fun Dn σ H ⟨B0, B, H0, env, S, p⟩ => p σ H0 H S
theorem ss_rt (he : SE X E e fe) : SS X E .e (.Return (some e) pos) (sRt fe) := by
  refine PS.weak (ps_ret he) fun Dn σ H ⟨B0, B, H0, env, S, p⟩ => ?_
  refine ⟨bor H0 H σ env, allV env, S.bor_s, S.allv, ?_⟩
  unfold sRt at p
  cases ef : fe (allV env) with
  | bad => rw [ef] at p; exact p
  | exc x => rw [ef] at p; exact p.excs S.x.b
  | ok d =>
    rw [ef] at p
    intro v H0' H' y r
    exact p v H0' H' (S.frzAll.x.trans y) r
theorem ss_rtO (he : SO X E e fe) : SS X E .o (.Return (some e) pos) (sRt fe) := by
  refine PS.weak (ps_ret he) fun Dn σ H ⟨B0, B, H0, env, S, p⟩ => ?_
  refine ⟨bor H0 H σ env, allV env, S.bor_s, S.allv, ?_⟩
  unfold sRt at p
  cases ef : fe (allV env) with
  | bad => rw [ef] at p; exact p
  | exc x => rw [ef] at p; exact p.excs S.x.b
  | ok d =>
    rw [ef] at p
    intro v H0' H' y n n0 r
    exact p v H0' H' (S.frzAll.x.trans y) (S.x.b.free n) n0 r
theorem ss_rtV {i : Nat} (hv : PE X e (tVar i)) : SS X E .o (.Return (some e) pos) (sRtV i) := by
  refine PS.weak (ps_ret hv) fun Dn σ H ⟨B0, B, H0, env, S, p⟩ => ?_
  unfold sRtV at p
  split at p
  · rename_i d hd
    obtain ⟨a, h1, h2, h3, h4⟩ := S.ow i d hd
    exact ⟨.ref a, h1, p a H0 H S.x h3 h2 h4⟩
  · exact p.elim
theorem ss_raise {x : String} (hc : X.calm = true) (tk : Takes X (fun cls d _ H => E cls d H)) {C : Addr} (hm : X.mg (Str.ofString x) = some (.ref C)) (he : PMk X e (fun _ H Q => Q (.ref C) none H)) : SS X E om (.Raise (some e) none pos) (sRaise x) :=
  PS.weak (ps_raise hc tk he) fun Dn σ H ⟨B0, B, H0, env, S, p⟩ => p H S.x.b C hm
/-- x.append(e) -/
theorem ss_ap {i : Nat} {o : Expr} {apos cpos : Pos} (hv : PE X o (tVar i)) (he : SE X E e fe)
    (hbase : attributeBase o "append" X.env (eval o X.env) = eval o X.env := by rfl)
    (hfew : ((backTo cpos (starEach [e] X.env)).all (fun x => !x.1) && (backToKw cpos (keywordEach [] X.env)).all (fun x => x.1.isSome)
      && decide (([e] : List Expr).length + ([] : List Keyword).length + (if ([] : List Keyword).isEmpty then 0 else 1) < 30)) = true := by rfl)
    (hline : (apos.endLine == cpos.line) = true := by rfl) (hs : starEach [e] X.env = (false, eval e X.env) :: starEach [] X.env := by rfl) (hplain : (backTo cpos (starEach [] X.env)).any (·.1) = false := by rfl)
    (hsw : swapsWith (.Call (.Attribute o "append" apos) [e] [] cpos) none pos.line X.env = pure false := by rfl) :
    SS X E om (.Expr (.Call (.Attribute o "append" apos) [e] [] cpos) pos) (sAp i fe) := by
  refine PS.weak (ps_expr (pe_bm PySem.F.plainAttrs_list PySem.F.slot_list_append PySem.F.type_list_append mt_append hv (pa_cons he pa_nil hs) hbase hfew hline hs hplain) hsw) fun Dn σ H ⟨B0, B, H0, env, S, p⟩ => ?_
  unfold sAp owL at p
  split at p
  · rename_i ds hd
    obtain ⟨a, h1, h2, h3, h4⟩ := S.ow i _ hd
    rcases h4 with ⟨es, vs, e1, e2, e3⟩ | ⟨ps, e1, _⟩
    · cases e1
      refine ⟨.ref a, h1, .inl ⟨rfl, vs, SqL.of e2⟩, ?_⟩
      refine ⟨H0, hidV env, S.same, S.hid, ?_⟩
      cases ef : fe (hidV env) with
      | bad => rw [ef] at p; exact p
      | exc x => rw [ef] at p; exact p.excs S.x.b
      | ok d =>
        rw [ef] at p
        intro v H0' H' y r
        by_cases c : ds.length ≤ 100000
        · simp only [Rs.ok_bind, if_pos c] at p
          refine ⟨a, vs, v, rfl, rfl, y.b _ _ e2, by rw [e3.length]; exact Nat.lt_of_le_of_lt c (by decide), ?_⟩
          refine p _ H0' _ ((S.grow y).mut (d' := .list (ds ++ [d])) hd h1 (.inl ⟨_, _, rfl, upd_same, (e3.mono y.a).append (.cons r .nil)⟩))
        · simp only [Rs.ok_bind, if_neg c] at p
          exact p.elim
    · cases e1
  · exact p.elim
/-- x.extend(e), e a new list -/
theorem ss_xt {i : Nat} {o : Expr} {apos cpos : Pos} (hv : PE X o (tVar i)) (he : SO X E e fe)
    (hbase : attributeBase o "extend" X.env (eval o X.env) = eval o X.env := by rfl)
    (hfew : ((backTo cpos (starEach [e] X.env)).all (fun x => !x.1) && (backToKw cpos (keywordEach [] X.env)).all (fun x => x.1.isSome)
      && decide (([e] : List Expr).length + ([] : List Keyword).length + (if ([] : List Keyword).isEmpty then 0 else 1) < 30)) = true := by rfl)
    (hline : (apos.endLine == cpos.line) = true := by rfl) (hs : starEach [e] X.env = (false, eval e X.env) :: starEach [] X.env := by rfl) (hplain : (backTo cpos (starEach [] X.env)).any (·.1) = false := by rfl)
    (hsw : swapsWith (.Call (.Attribute o "extend" apos) [e] [] cpos) none pos.line X.env = pure false := by rfl) :
    SS X E om (.Expr (.Call (.Attribute o "extend" apos) [e] [] cpos) pos) (sXt i fe) := by
  refine PS.weak (ps_expr (pe_bm PySem.F.plainAttrs_list PySem.F.slot_list_extend PySem.F.type_list_extend mt_extend hv (pa_cons he pa_nil hs) hbase hfew hline hs hplain) hsw) fun Dn σ H ⟨B0, B, H0, env, S, p⟩ => ?_
  unfold sXt owL at p
  split at p
  · rename_i ds hd
    obtain ⟨a, h1, h2, h3, h4⟩ := S.ow i _ hd
    rcases h4 with ⟨es, vs, e1, e2, e3⟩ | ⟨ps, e1, _⟩
    · cases e1
      refine ⟨.ref a, h1, .inl ⟨rfl, vs, SqL.of e2⟩, ?_⟩
      refine ⟨H0, hidV env, S.same, S.hid, ?_⟩
      cases ef : fe (hidV env) with
      | bad => rw [ef] at p; exact p
      | exc x => rw [ef] at p; exact p.excs S.x.b
      | ok d =>
        rw [ef] at p
        intro b H0' H' y n n0 r
        cases d <;> first | exact p.elim | skip
        case list es =>
          rcases r with ⟨es', ws, f1, f2, f3⟩ | ⟨ps, f1, _⟩
          · cases f1
            by_cases c : ds.length + es.length ≤ 100000
            · simp only [Rs.ok_bind, lstB, if_pos c] at p
              refine ⟨a, b, vs, ws, rfl, rfl, y.b _ _ e2, f2, by rw [e3.length, f3.length]; exact sz5 c, ?_⟩
              refine p _ H0' _ ((S.grow y).mut (d' := .list (ds ++ es)) hd h1 (.inl ⟨_, _, rfl, upd_same, (e3.mono y.a).append f3⟩))
            · simp only [Rs.ok_bind, lstB, if_neg c] at p
              exact p.elim
          · cases f1
    · cases e1
  · exact p.elim
/-! ### while -/
def whileN (c : Ev → Rs Bool) (body : SEnv → Rs Fl) : Nat → SEnv → Rs Fl
  | 0, _ => .bad
  | n + 1, env => (c (allV env)).bind fun b => if b = true then (body env).bind fun r => (match r with
      | .nx e => whileN c body n e
      | .ct e => whileN c body n e
      | .bk e => .ok (.nx e)
      | .rt d => .ok (.rt d)) else .ok (.nx env)
theorem ss_wh {c : Expr} {gc : Ev → Rs Bool} (n : Nat) (hp : PassesOwn (model X.prog X.w) X.A X.env X.xe) (hc : SB X E c gc) (hb : SSs X E om body f) : SS X E om (.While c body [] pos) (whileN gc f n) := by
  refine PS.weak (ps_while hp hc hb) fun Dn σ H ⟨B0, B, H0, env, S, p⟩ => ?_
  refine ⟨fun m σ H => ∃ H0 env, Stt X.K B0 B H0 H σ env ∧ PostS (zOf X E) om B0 B (whileN gc f m env) Dn, ⟨n, H0, env, S, p⟩, ?_⟩
  rintro m σ H ⟨H0, env, S, p⟩
  refine ⟨bor H0 H σ env, allV env, S.bor_s, S.allv, ?_⟩
  cases m with
  | zero => exact p.elim
  | succ m =>
    unfold whileN at p
    cases ef : gc (allV env) with
    | bad => rw [ef] at p; exact p
    | exc x => rw [ef] at p; exact p.excs S.x.b
    | ok k =>
      rw [ef] at p
      intro H' s
      cases k with
      | false =>
        rw [if_neg Bool.false_ne_true]
        exact p σ H0 H' (S.up s)
      | true =>
        rw [if_pos rfl]
        refine ⟨fun σ' H' => ∃ H0 env, Stt X.K B0 B H0 H' σ' env ∧ PostS (zOf X E) om B0 B (whileN gc f m env) Dn, fun σ' H' ⟨H0, env, S, p⟩ => ⟨m, Nat.lt_succ_self m, H0, env, S, p⟩, B0, B, H0, env, S.up s, ?_⟩
        simp only [Rs.ok_bind, if_true] at p
        cases eb : f env with
        | bad => rw [eb] at p; exact p
        | exc x => rw [eb] at p; exact p
        | ok r =>
          rw [eb] at p
          cases r with
          | nx e' => exact fun σ' H0' H'' S' => ⟨H0', e', S', p⟩
          | ct e' => exact fun σ' H0' H'' S' => ⟨H0', e', S', p⟩
          | bk e' => exact p
          | rt d => exact p
end
end Sk

namespace Sk
open PySem PySem.Spec PyProof.Rows L2

/-! ### what is walked -/
structure Wk (K : PySem.W.Frag) (H0 : Hp) (J : It) (items : List D) : Prop where
  go : ∀ (t : Nat) (H : Hp), Same H0 H → t < items.length → J.go t H
  stop : ∀ (t : Nat) (H : Hp), Same H0 H → items.length ≤ t → J.stop t H
  yld : ∀ (t : Nat) (H H1 : Hp) (x : V) (H' : Hp) (d : D), Same H0 H1 → Same H1 H → items[t]? = some d → J.yld t H x H' → ∃ H1', Ex2 H1 H H1' H' ∧ Rp K H1' d x
def PostI (Z : Wh) (R : It → Hp → Prop) (H0 H : Hp) (r : Rs (List D)) : Prop := match r with
  | .ok items => ∀ J H0' H', Ex2 H0 H H0' H' → Wk Z.K H0' J items → R J H'
  | .exc x => ∀ H', Same H H' → EX Z.mg Z.E x H'
  | .bad => False
theorem PostI.step {Z : Wh} {R : It → Hp → Prop} {H0 H H0' H' : Hp} {r : Rs (List D)} (x : Ex2 H0 H H0' H') (h : PostI Z R H0 H r) : PostI Z R H0' H' r := by
  cases r with
  | ok d => exact fun v A B y q => h v A B (x.trans y) q
  | exc e => exact fun B y => h B (x.b.trans y)
  | bad => exact h
def iS (Z : Wh) (fs : Ev → Rs (List D)) : TI := fun σ H R => ∃ H0 ev, Same H0 H ∧ RpV Z.K H0 σ ev ∧ PostI Z R H0 H (fs ev)
theorem PI.weak {X : Cx} {tg e : Expr} {t t' : TI} (h : PI X tg e t) (w : ∀ σ H Q, t' σ H Q → t σ H Q) : PI X tg e t' := ⟨fun pins s σ H Q I q => h.run pins s σ H Q I (w σ H Q q)⟩
def rng1 : D → Rs (List D)
  | .int j => if -1000000 ≤ j ∧ j ≤ 1000000 then .ok ((List.range j.toNat).map fun k : Nat => .int (0 + (k : Int))) else .bad
  | _ => .bad
def rng2 : D → D → Rs (List D)
  | .int i, .int j => if (-1000000 ≤ i ∧ i ≤ 1000000) ∧ -1000000 ≤ j ∧ j ≤ 1000000 then .ok ((List.range (j - i).toNat).map fun k : Nat => .int (i + (k : Int))) else .bad
  | _, _ => .bad
def zR1 (fa : Ev → Rs D) : Ev → Rs (List D) := fun ev => (fa ev).bind rng1
def zR2 (fa fb : Ev → Rs D) : Ev → Rs (List D) := fun ev => (fa ev).bind fun a => (fb ev).bind fun b => rng2 a b
def lstR : D → Rs (List D)
  | .list ds => .ok ds
  | _ => .bad
def tupR : D → Rs (List D)
  | .tuple ds => .ok ds
  | _ => .bad
def strR : D → Rs (List D)
  | .str z => .ok (z.cps.toList.map fun c => .str ⟨#[c]⟩)
  | _ => .bad
def zLst (fe : Ev → Rs D) : Ev → Rs (List D) := fun ev => (fe ev).bind lstR
def zTup (fe : Ev → Rs D) : Ev → Rs (List D) := fun ev => (fe ev).bind tupR
def zStr (fe : Ev → Rs D) : Ev → Rs (List D) := fun ev => (fe ev).bind strR
def zipR : D → D → Rs (List D)
  | .list xs, .list ys => .ok ((xs.zip ys).map fun p => .tuple [p.1, p.2])
  | _, _ => .bad
def zZip (fa fb : Ev → Rs D) : Ev → Rs (List D) := fun ev => (fa ev).bind fun a => (fb ev).bind fun b => zipR a b
theorem wk_range (K : PySem.W.Frag) (H0 : Hp) (lo : Int) (n : Nat) : Wk K H0 (Itr lo n) ((List.range n).map fun k : Nat => .int (lo + (k : Int))) where
  go := fun t H _ h => by simp only [List.length_map, List.length_range, Array.length_toList] at h; exact h
  stop := fun t H _ h => by simp only [List.length_map, List.length_range, Array.length_toList] at h; exact h
  yld := fun t H H1 x H' d s s1 e y => by
    obtain ⟨rfl, rfl⟩ := y
    rw [List.getElem?_map] at e
    obtain ⟨k, hk, rfl⟩ := Option.map_eq_some_iff.mp e
    obtain ⟨_, hk⟩ := List.getElem?_eq_some_iff.mp hk
    simp only [List.getElem_range] at hk
    subst hk
    exact ⟨H1, Ex2.refl s1, rfl⟩
theorem wk_list {K : PySem.W.Frag} {H0 : Hp} {a : Addr} {vs : List V} {ds : List D} (h : SqL K H0 a vs) (r : RpL K H0 ds vs) : Wk K H0 (Itl K a) ds where
  go := fun t H s hl => ⟨vs, vs[t]'(by rw [r.length]; exact hl), s.seq h, by simp⟩
  stop := fun t H s hl => ⟨vs, s.seq h, by rw [r.length]; exact hl⟩
  yld := fun t H H1 x H' d s s1 e y => by
    obtain ⟨rfl, f⟩ := y
    obtain ⟨v, hv, rv⟩ := r.get e
    cases (f vs ((s.trans s1).seq h)).symm.trans hv
    exact ⟨H1, Ex2.refl s1, rv.mono s⟩
theorem wk_tup {K : PySem.W.Frag} {H0 : Hp} {a : Addr} {vs : List V} {ds : List D} (h : SqT K H0 a vs) (r : RpL K H0 ds vs) : Wk K H0 (Itt K a) ds where
  go := fun t H s hl => ⟨vs, vs[t]'(by rw [r.length]; exact hl), sqt_same s h, by simp⟩
  stop := fun t H s hl => ⟨vs, sqt_same s h, by rw [r.length]; exact hl⟩
  yld := fun t H H1 x H' d s s1 e y => by
    obtain ⟨rfl, f⟩ := y
    obtain ⟨v, hv, rv⟩ := r.get e
    cases (f vs (sqt_same (s.trans s1) h)).symm.trans hv
    exact ⟨H1, Ex2.refl s1, rv.mono s⟩
theorem wk_str (K : PySem.W.Frag) (H0 : Hp) (z : Str) : Wk K H0 (Its z) (z.cps.toList.map fun c => .str ⟨#[c]⟩) where
  go := fun t H _ h => by simp only [List.length_map, List.length_range, Array.length_toList] at h; exact h
  stop := fun t H _ h => by simp only [List.length_map, List.length_range, Array.length_toList] at h; exact h
  yld := fun t H H1 x H' d s s1 e y => by
    obtain ⟨rfl, c, hc, rfl⟩ := y
    rw [List.getElem?_map] at e
    obtain ⟨k, hk, rfl⟩ := Option.map_eq_some_iff.mp e
    rw [Array.getElem?_toList, hc] at hk
    cases hk
    exact ⟨H1, Ex2.refl s1, rfl⟩
theorem wk_zip {K : PySem.W.Frag} {H0 : Hp} {a b : Addr} {vs ws : List V} {ds es : List D} (h : SqL K H0 a vs) (r : RpL K H0 ds vs) (h2 : SqL K H0 b ws) (r2 : RpL K H0 es ws) : Wk K H0 (Itz K a b) ((ds.zip es).map fun p => .tuple [p.1, p.2]) where
  go := fun t H s hl => by
    simp only [List.length_map, List.length_zip] at hl
    exact ⟨vs, ws, vs[t]'(by rw [r.length]; omega), ws[t]'(by rw [r2.length]; omega), s.seq h, s.seq h2, by simp, by simp⟩
  stop := fun t H s hl => by
    simp only [List.length_map, List.length_zip] at hl
    refine ⟨vs, ws, s.seq h, s.seq h2, ?_⟩
    rw [r.length, r2.length]
    omega
  yld := fun t H H1 x H' d s s1 e y => by
    obtain ⟨T, x1, x2, rfl, nT, rfl, f1, f2⟩ := y
    rw [List.getElem?_map] at e
    obtain ⟨⟨d1, d2⟩, hk, rfl⟩ := Option.map_eq_some_iff.mp e
    rw [List.getElem?_zip_eq_some] at hk
    obtain ⟨v, hv, rv⟩ := r.get hk.1
    obtain ⟨w, hw, rw'⟩ := r2.get hk.2
    cases (f1 vs ((s.trans s1).seq h)).symm.trans hv
    cases (f2 ws ((s.trans s1).seq h2)).symm.trans hw
    have n1 := s1.free nT
    exact ⟨upd H1 T (.tup [x1, x2]), Ex2.new s1 nT _, T, [x1, x2], rfl, SqT.of upd_same, .cons (rv.mono (s.trans (same_new n1 _))) (.cons (rw'.mono (s.trans (same_new n1 _))) .nil)⟩
section
variable {X : Cx} {E : XK} {tg e a b : Expr} {fe fa fb : Ev → Rs D} {p pos : Pos}
theorem one {σ : L2.St} {H : Hp} {Z : Wh} {α : Type} {op : D → Rs α} {R : V → Hp → Prop} {P : Hp → Hp → Rs α → Prop} (h : ∃ H0 ev, Same H0 H ∧ RpV Z.K H0 σ ev ∧ P H0 H ((fa ev).bind op))
    (step : ∀ H0 H H0' H' r, Ex2 H0 H H0' H' → P H0 H r → P H0' H' r) (hexc : ∀ H0 H x, P H0 H (.exc x) → ∀ H', Same H H' → EX Z.mg Z.E x H') (hbad : ∀ H0 H, ¬ P H0 H .bad)
    (fin : ∀ H0 H x a, Same H0 H → Rp Z.K H0 a x → P H0 H (op a) → R x H) : tE Z fa σ H R := by
  obtain ⟨H0, ev, s, rv, p⟩ := h
  refine ⟨H0, ev, s, rv, ?_⟩
  cases ea : fa ev with
  | bad => rw [ea] at p; exact (hbad _ _ p).elim
  | exc x => rw [ea] at p; exact hexc _ _ _ p
  | ok a =>
    rw [ea] at p
    intro v H1 H' x1 r1
    exact fin H1 H' v a x1.c r1 (step _ _ _ _ _ x1 p)
theorem src_rng1 (hm : X.mg "range" = none) (ha : SE X E a fa) (hg : Gl X "range" := by rfl) (hs : starEach [a] X.env = [(false, eval a X.env)] := by rfl) : PI X tg (.Call (.Name "range" p) [a] [] pos) (iS (zOf X E) (zR1 fa)) := by
  refine PI.weak (pi_range1 hg hm (pa_cons ha pa_nil hs) hs) fun σ H R q => ?_
  refine one (P := PostI (zOf X E) R) q (fun _ _ _ _ _ x p => p.step x) (fun _ _ _ p => p) (fun _ _ p => p) fun H0 H x a s r p => ?_
  cases a <;> first | exact p.elim | skip
  case int j =>
    simp only [rng1] at p
    by_cases c : -1000000 ≤ j ∧ j ≤ 1000000
    · rw [if_pos c] at p
      exact ⟨j, by rw [show x = V.int j from r], by omega, by omega, p _ _ _ (Ex2.refl s) (wk_range _ _ 0 _)⟩
    · rw [if_neg c] at p; exact p.elim
theorem src_rng2 (hm : X.mg "range" = none) (ha : SE X E a fa) (hb : SE X E b fb) (hg : Gl X "range" := by rfl) (hs : starEach [a, b] X.env = [(false, eval a X.env), (false, eval b X.env)] := by rfl) (hs2 : starEach [b] X.env = [(false, eval b X.env)] := by rfl) :
    PI X tg (.Call (.Name "range" p) [a, b] [] pos) (iS (zOf X E) (zR2 fa fb)) := by
  refine PI.weak (pi_range2 hg hm (pa_cons ha (pa_cons hb pa_nil hs2) (by rw [hs, hs2])) hs hs2) fun σ H R q => ?_
  refine two (P := PostI (zOf X E) R) q (fun _ _ _ _ _ x p => p.step x) (fun _ _ _ p => p) (fun _ _ p => p) fun H0 H x y a b s r r2 p => ?_
  cases a <;> cases b <;> first | exact p.elim | skip
  case int.int i j =>
    simp only [rng2] at p
    by_cases c : (-1000000 ≤ i ∧ i ≤ 1000000) ∧ -1000000 ≤ j ∧ j ≤ 1000000
    · rw [if_pos c] at p
      exact ⟨i, j, by rw [show x = V.int i from r, show y = V.int j from r2], ⟨by omega, by omega, by omega, by omega⟩, p _ _ _ (Ex2.refl s) (wk_range _ _ _ _)⟩
    · rw [if_neg c] at p; exact p.elim
theorem src_list (h : SE X E e fe) : PI X tg e (iS (zOf X E) (zLst fe)) := by
  refine PI.weak (pi_list h) fun σ H R q => ?_
  refine one (P := PostI (zOf X E) R) q (fun _ _ _ _ _ x p => p.step x) (fun _ _ _ p => p) (fun _ _ p => p) fun H0 H x a s r p => ?_
  cases a <;> first | exact p.elim | skip
  case list ds =>
    obtain ⟨a, vs, rfl, h1, h2⟩ := r
    exact ⟨a, rfl, ⟨vs, s.seq h1⟩, p _ _ _ (Ex2.refl s) (wk_list h1 h2)⟩
theorem src_tup (h : SE X E e fe) : PI X tg e (iS (zOf X E) (zTup fe)) := by
  refine PI.weak (pi_tup h) fun σ H R q => ?_
  refine one (P := PostI (zOf X E) R) q (fun _ _ _ _ _ x p => p.step x) (fun _ _ _ p => p) (fun _ _ p => p) fun H0 H x a s r p => ?_
  cases a <;> first | exact p.elim | skip
  case tuple ds =>
    obtain ⟨a, vs, rfl, h1, h2⟩ := r
    exact ⟨a, rfl, ⟨vs, sqt_same s h1⟩, p _ _ _ (Ex2.refl s) (wk_tup h1 h2)⟩
theorem src_str (h : SE X E e fe) : PI X tg e (iS (zOf X E) (zStr fe)) := by
  refine PI.weak (pi_str h) fun σ H R q => ?_
  refine one (P := PostI (zOf X E) R) q (fun _ _ _ _ _ x p => p.step x) (fun _ _ _ p => p) (fun _ _ p => p) fun H0 H x a s r p => ?_
  cases a <;> first | exact p.elim | skip
  case str z => exact ⟨z, r, p _ _ _ (Ex2.refl s) (wk_str _ _ z)⟩
theorem src_zip {elts : List Expr} {kk : Nat} {tpos : Pos} (hm : X.mg "zip" = none) (ha : SE X E a fa) (hb : SE X E b fb) (hg : Gl X "zip" := by rfl)
    (hs : starEach [a, b] X.env = (false, eval a X.env) :: starEach [b] X.env := by rfl) (hs2 : starEach [b] X.env = (false, eval b X.env) :: starEach [] X.env := by rfl) (hpl : (backTo pos (starEach [b] X.env)).any (·.1) = false := by rfl) :
    PI X (.Tuple elts kk tpos) (.Call (.Name "zip" p) [a, b] [] pos) (iS (zOf X E) (zZip fa fb)) := by
  refine PI.weak (pi_zip hg hm (pa_cons ha (pa_cons hb pa_nil hs2) hs) hs hpl) fun σ H R q => ?_
  refine two (P := PostI (zOf X E) R) q (fun _ _ _ _ _ x p => p.step x) (fun _ _ _ p => p) (fun _ _ p => p) fun H0 H x y a b s r r2 p => ?_
  cases a <;> cases b <;> first | exact p.elim | skip
  case list.list ds es =>
    obtain ⟨a, vs, rfl, h1, h2⟩ := r
    obtain ⟨b, ws, rfl, h3, h4⟩ := r2
    exact ⟨a, b, vs, ws, rfl, s.seq h1, s.seq h3, p _ _ _ (Ex2.refl s) (wk_zip h1 h2 h3 h4)⟩
end

/-! ### for -/
/-- a target and what it does to the locals -/
def TgS (K : PySem.W.Frag) (g : TG) (asg : D → SEnv → Rs SEnv) : Prop := ∀ (B0 B H0 H : Hp) (σ : L2.St) (env env' : SEnv) (d : D) (v : V) (Q : L2.St → Hp → Prop), Stt K B0 B H0 H σ env → Rp K H0 d v → asg d env = .ok env' →
  (∀ σ' H0' H', Stt K B0 B H0' H' σ' env' → Q σ' H') → g v σ H Q
def gS1 (i : Nat) : D → SEnv → Rs SEnv := fun d env => .ok (env.set i (.sh d))
def gS2 (i j : Nat) : D → SEnv → Rs SEnv := fun d env => match d with
  | .tuple [a, b] => .ok ((env.set i (.sh a)).set j (.sh b))
  | _ => .bad
theorem tg_1 {K : PySem.W.Frag} (i : Nat) : TgS K (gName i) (gS1 i) := fun B0 B H0 H σ env env' d v Q S r e q => by
  cases e
  exact q _ H0 H (S.set_sh i r)
theorem tg_2 {K : PySem.W.Frag} (i j : Nat) : TgS K (gTup K 2 (gCons (gName i) (gCons (gName j) gNil))) (gS2 i j) := fun B0 B H0 H σ env env' d v Q S r e q => by
  unfold gS2 at e
  split at e
  · rename_i a b
    cases e
    obtain ⟨l, vs, rfl, h1, h2⟩ := r
    obtain ⟨x, y, rfl, rx, ry⟩ := h2.two
    refine ⟨l, [x, y], rfl, sqt_same S.same h1, rfl, x, [y], rfl, y, [], rfl, rfl, ?_⟩
    exact q _ H0 H ((S.set_sh i rx).set_sh j ry)
  · cases e
def loopF (asg : D → SEnv → Rs SEnv) (body : SEnv → Rs Fl) : List D → SEnv → Rs Fl
  | [], env => .ok (.nx env)
  | d :: ds, env => (asg d env).bind fun env1 => (body env1).bind fun r => match r with
    | .nx e => loopF asg body ds e
    | .ct e => loopF asg body ds e
    | .bk e => .ok (.nx e)
    | .rt d => .ok (.rt d)
def sFor (fs : Ev → Rs (List D)) (asg : D → SEnv → Rs SEnv) (body : SEnv → Rs Fl) : SEnv → Rs Fl := fun env => (fs (hidV env)).bind fun items => loopF asg body items env
section
variable {X : Cx} {E : XK} {om : Om} {tg iter : Expr} {body : List Stmt} {f : SEnv → Rs Fl} {fs : Ev → Rs (List D)} {g : TG} {asg : D → SEnv → Rs SEnv} {pos : Pos}
theorem Stt.loop {K : PySem.W.Frag} {B0 B H0 H : Hp} {σ : L2.St} {env : SEnv} (S : Stt K B0 B H0 H σ env) : Ex2 B0 B H0 (cutO H H σ env) ∧ Stt K H0 (cutO H H σ env) H0 H σ env := by
  have c1 : Same H0 (cutO H H σ env) := fun b o e => by rw [cut_not (S.not_own e)]; exact S.same _ _ e
  have c2 : Same (cutO H H σ env) H := fun b o e => by
    by_cases c : Own H σ env b
    · rw [cut_own c] at e; cases e
    · rw [cut_not c] at e; exact e
  refine ⟨⟨S.x.a, fun b o e => ?_, c1, S.x.d⟩, ⟨⟨Same.refl _, c2, S.same, fun _ _ _ => rfl⟩, S.len, S.sh, fun i d e => ?_, fun i dss e => ?_, S.ne⟩⟩
  · by_cases c : Own H σ env b
    · have := (S.own c).2.1
      rw [this] at e; cases e
    · rw [cut_not c]; exact S.x.b _ _ e
  · obtain ⟨p, h1, h2, h3, h4⟩ := S.ow i d e
    exact ⟨p, h1, h2, cut_own ⟨i, _, e, h1⟩, h4⟩
  · obtain ⟨p, ps, h1, h2, h3⟩ := S.on i dss e
    exact ⟨p, ps, h1, h2, fun q hq => ⟨(h3 q hq).1, cut_own ⟨i, _, e, p, ps, h1, h2.o, hq⟩⟩⟩
theorem ss_for (hp : PassesOwn (model X.prog X.w) X.A X.env X.xe) (hc : X.calm = true) (hi : PI X tg iter (iS (zOf X E) fs)) (hg : PG X tg g) (ht' : TgS X.K g asg) (hne : ∀ d e x, asg d e ≠ .exc x) (hb : SSs X E om body f)
    (hs : ∀ x, foldedSetIterable iter X.env x = pure x := by intro _; rfl) : SS X E om (.For tg iter body [] pos) (sFor fs asg f) := by
  refine PS.weak (ps_for hp hc hi hg hb hs) fun Dn σ H ⟨B0, B, H0, env, S, p⟩ => ?_
  refine ⟨H0, hidV env, S.same, S.hid, ?_⟩
  unfold sFor at p
  cases ef : fs (hidV env) with
  | bad => rw [ef] at p; exact p
  | exc x => rw [ef] at p; exact p.excs S.x.b
  | ok items =>
    rw [ef] at p
    intro J H0' H' y wk
    obtain ⟨xb, S'⟩ := (S.grow y).loop
    have p' := PostS.step xb p
    simp only [Rs.ok_bind] at p'
    generalize hB : cutO H' H' σ env = Bc at S' p' xb
    refine ⟨fun t m σ3 H3 => t ≤ items.length ∧ m = items.length - t ∧ ∃ H0c envc, Stt X.K H0' Bc H0c H3 σ3 envc ∧ PostS (zOf X E) om H0' Bc (loopF asg f (items.drop t) envc) Dn, ⟨items.length, Nat.zero_le _, by rw [Nat.sub_zero], H0', env, S', by rw [List.drop_zero]; exact p'⟩, ?_⟩
    rintro t m σ3 H3 ⟨ht, rfl, H0c, envc, Sc, pc⟩
    have sb : Same H0' H3 := Sc.x.a.trans Sc.x.c
    by_cases hlt : t < items.length
    · refine .inr ⟨wk.go t H3 sb hlt, fun σ4 H4 => ∃ H0d envd, Stt X.K H0' Bc H0d H4 σ4 envd ∧ PostS (zOf X E) om H0' Bc (loopF asg f (items.drop (t + 1)) envd) Dn, fun σ4 H4 ⟨H0d, envd, Sd, pd⟩ => ⟨items.length - (t + 1), by omega, hlt, rfl, H0d, envd, Sd, pd⟩, fun x H4 hy => ?_⟩
      have hd : items.drop t = items[t] :: items.drop (t + 1) := List.drop_eq_getElem_cons hlt
      rw [hd] at pc
      obtain ⟨H0d, yd, rd⟩ := wk.yld t H3 H0c x H4 items[t] Sc.x.a Sc.x.c (List.getElem?_eq_getElem hlt) hy
      have Sd := Sc.grow yd
      unfold loopF at pc
      cases ea : asg items[t] envc with
      | bad => rw [ea] at pc; exact pc.elim
      | exc x' =>
        exfalso
        exact hne _ _ _ ea
      | ok env1 =>
        rw [ea] at pc
        refine ht' H0' Bc H0d H4 σ3 envc env1 items[t] x _ Sd rd ea fun σ5 H05 H5 S5 => ⟨H0', Bc, H05, env1, S5, ?_⟩
        simp only [Rs.ok_bind] at pc
        cases eb : f env1 with
        | bad => rw [eb] at pc; exact pc
        | exc x' => rw [eb] at pc; exact pc
        | ok r =>
          rw [eb] at pc
          cases r with
          | nx e' => exact fun σ6 H06 H6 S6 => ⟨H06, e', S6, pc⟩
          | ct e' => exact fun σ6 H06 H6 S6 => ⟨H06, e', S6, pc⟩
          | bk e' => exact pc
          | rt d => exact pc
    · have et : t = items.length := by omega
      rw [et, List.drop_length] at pc
      exact .inl ⟨wk.stop t H3 sb (by omega), pc σ3 H0c H3 Sc⟩
end

/-! ### comprehensions -/
def wipeE (ev : Ev) : List Nat → Ev
  | [] => ev
  | v :: vs => (wipeE ev vs).set v none
theorem RpV.wipe {K : PySem.W.Frag} {H : Hp} {σ : L2.St} {ev : Ev} (h : RpV K H σ ev) : ∀ vs : List Nat, RpV K H (L2.wipe σ vs) (wipeE ev vs)
  | [] => h
  | v :: vs => by
    have ih := RpV.wipe h vs
    refine ⟨by unfold L2.wipe wipeE; rw [List.length_set, List.length_set]; exact ih.1, fun i d e => ?_⟩
    unfold wipeE at e
    rcases get_set e with ⟨_, _, e1⟩ | ⟨hne, e⟩
    · cases e1
    · obtain ⟨u, h1, h2⟩ := ih.2 i d e
      exact ⟨u, by unfold L2.wipe; rw [List.getElem?_set_ne hne]; exact h1, h2⟩
theorem RpV.set {K : PySem.W.Frag} {H : Hp} {σ : L2.St} {ev : Ev} (h : RpV K H σ ev) {d : D} {v : V} (r : Rp K H d v) (i : Nat) : RpV K H (σ.set i (some v)) (ev.set i (some d)) := by
  refine ⟨by rw [List.length_set, List.length_set]; exact h.1, fun j e hj => ?_⟩
  rcases get_set hj with ⟨rfl, hl, e1⟩ | ⟨hne, hj⟩
  · cases e1
    exact ⟨v, List.getElem?_set_self (by rw [← h.1]; exact hl), r⟩
  · obtain ⟨u, h1, h2⟩ := h.2 j e hj
    exact ⟨u, by rw [List.getElem?_set_ne hne]; exact h1, h2⟩
theorem wipe_get (σ : L2.St) : ∀ (vs : List Nat) (j : Nat), (L2.wipe σ vs)[j]? = if j ∈ vs ∧ j < σ.length then some none else σ[j]?
  | [], j => by simp [L2.wipe]
  | v :: vs, j => by
    unfold L2.wipe
    rw [List.getElem?_set, wipe_get σ vs j, L2.wipe_length]
    by_cases c : v = j
    · subst c
      rw [if_pos rfl]
      by_cases c2 : v < σ.length
      · rw [if_pos c2, if_pos ⟨List.mem_cons_self, c2⟩]
      · rw [if_neg c2, if_neg (fun h => c2 h.2)]
        exact (List.getElem?_eq_none (by omega)).symm
    · rw [if_neg c]
      have e : (j ∈ v :: vs ∧ j < σ.length) ↔ (j ∈ vs ∧ j < σ.length) := by
        rw [List.mem_cons]
        exact ⟨fun h => ⟨h.1.resolve_left (fun z => c z.symm), h.2⟩, fun h => ⟨.inr h.1, h.2⟩⟩
      by_cases c3 : j ∈ vs ∧ j < σ.length
      · rw [if_pos c3, if_pos (e.mpr c3)]
      · rw [if_neg c3, if_neg (fun h => c3 (e.mp h))]
theorem wipe_own (σ : L2.St) (vs : List Nat) (i : Nat) (x : Option V) (h : i ∈ vs) : L2.wipe ((L2.wipe σ vs).set i x) vs = L2.wipe σ vs := by
  apply List.ext_getElem?
  intro j
  rw [wipe_get, List.getElem?_set, wipe_get σ vs j, List.length_set, L2.wipe_length]
  by_cases c : j ∈ vs ∧ j < σ.length
  · rw [if_pos c, if_pos c]
  · rw [if_neg c, if_neg c]
    by_cases c2 : i = j
    · subst c2
      rw [if_pos rfl]
      have : ¬ i < σ.length := fun q => c ⟨h, q⟩
      rw [if_neg this]
      exact (List.getElem?_eq_none (by omega)).symm
    · rw [if_neg c2]
def mapF (p : D → Rs Bool) (f : D → Rs D) : List D → Rs (List D)
  | [] => .ok []
  | d :: ds => match p d with
    | .ok true => match f d with
      | .ok y => (mapF p f ds).bind fun ys => .ok (y :: ys)
      | _ => .bad
    | .ok false => mapF p f ds
    | _ => .bad
def eLc (fs : Ev → Rs (List D)) (vs : List Nat) (i : Nat) (gp : Ev → Rs Bool) (fe : Ev → Rs D) : Ev → Rs D := fun ev => (fs ev).bind fun items => if items.length ≤ 100000 then
    (mapF (fun d => gp ((wipeE ev vs).set i (some d))) (fun d => fe ((wipeE ev vs).set i (some d))) items).bind fun ys => .ok (.list ys) else .bad
def yesB : Ev → Rs Bool := fun _ => .ok true
theorem pts_yes {X : Cx} {E : XK} : PTs X [] (tB (zOf X E) yesB) := ⟨fun pins s σ H Q I q => by
  obtain ⟨H0, ev, sm, rv, p⟩ := q
  exact pts_nil.run pins s σ H Q I (p H (Same.refl _))⟩
theorem mapF_noexc (p : D → Rs Bool) (f : D → Rs D) : ∀ (ds : List D) (x : String), mapF p f ds ≠ .exc x
  | [], x, h => by simp [mapF] at h
  | d :: ds, x, h => by
    unfold mapF at h
    split at h
    · split at h
      · cases e : mapF p f ds with
        | ok ys => rw [e] at h; cases h
        | exc y => exact mapF_noexc p f ds y e
        | bad => rw [e] at h; cases h
      · cases h
    · exact mapF_noexc p f ds x h
    · cases h
theorem lc_of {Z : Wh} {fs : Ev → Rs (List D)} {vs : List Nat} {i : Nat} {gp : Ev → Rs Bool} {fe : Ev → Rs D} (hi : i ∈ vs) {σ : L2.St} {H : Hp} {Q : VK} (h : tO Z (eLc fs vs i gp fe) σ H Q) : tLc (iS Z fs) (gName i) (tB Z gp) (tE Z fe) vs σ H Q := by
  obtain ⟨H0, ev, s, rv, p⟩ := h
  refine ⟨H0, ev, s, rv, ?_⟩
  unfold eLc at p
  cases ef : fs ev with
  | bad => rw [ef] at p; exact p
  | exc x => rw [ef] at p; exact p
  | ok items =>
    rw [ef] at p
    intro J H1 H' y wk D0 nD
    have p := p.step y
    simp only [Rs.ok_bind] at p
    by_cases hl : items.length ≤ 100000
    · rw [if_pos hl] at p
      cases em : mapF (fun d => gp ((wipeE ev vs).set i (some d))) (fun d => fe ((wipeE ev vs).set i (some d))) items with
      | bad => rw [em] at p; exact p.elim
      | exc x => exact (mapF_noexc _ _ _ _ em).elim
      | ok fin =>
        rw [em] at p
        have rw0 : RpV Z.K H1 (L2.wipe σ vs) (wipeE ev vs) := (rv.mono y.a).wipe vs
        refine ⟨fun t m Hc => t ≤ items.length ∧ m = items.length - t ∧ ∃ H0c out acc rest, Ex2 H1 H' H0c Hc ∧ Hc D0 = some (.lst acc) ∧ H0c D0 = none ∧ RpL Z.K H0c out acc ∧ out.length ≤ t ∧
            mapF (fun d => gp ((wipeE ev vs).set i (some d))) (fun d => fe ((wipeE ev vs).set i (some d))) (items.drop t) = .ok rest ∧ out ++ rest = fin,
          ⟨items.length, Nat.zero_le _, by rw [Nat.sub_zero], H1, [], [], fin, Ex2.out y.c nD _, upd_same, y.c.free nD, .nil, Nat.zero_le _, by rw [List.drop_zero]; exact em, rfl⟩, ?_⟩
        rintro t m Hc ⟨ht, rfl, H0c, out, acc, rest, xc, hD, hD0, ro, lo, er, efin⟩
        have sb : Same H1 Hc := xc.a.trans xc.c
        by_cases hlt : t < items.length
        · have hd : items.drop t = items[t] :: items.drop (t + 1) := List.drop_eq_getElem_cons hlt
          rw [hd] at er
          refine .inr ⟨wk.go t Hc sb hlt, fun Hd => ∃ H0c out acc rest, Ex2 H1 H' H0c Hd ∧ Hd D0 = some (.lst acc) ∧ H0c D0 = none ∧ RpL Z.K H0c out acc ∧ out.length ≤ t + 1 ∧
            mapF (fun d => gp ((wipeE ev vs).set i (some d))) (fun d => fe ((wipeE ev vs).set i (some d))) (items.drop (t + 1)) = .ok rest ∧ out ++ rest = fin, fun Hd q => ⟨items.length - (t + 1), by omega, hlt, rfl, q⟩, fun x Hd hy => ?_⟩
          obtain ⟨H0d, yd, rd⟩ := wk.yld t Hc H0c x Hd items[t] xc.a xc.c (List.getElem?_eq_getElem hlt) hy
          refine ⟨wipe_own σ vs i _ hi, ?_⟩
          have rv1 : RpV Z.K H0d ((L2.wipe σ vs).set i (some x)) ((wipeE ev vs).set i (some items[t])) := (rw0.mono (xc.a.trans yd.a)).set rd i
          refine ⟨H0d, _, yd.c, rv1, ?_⟩
          unfold mapF at er
          cases eg : gp ((wipeE ev vs).set i (some items[t])) with
          | bad => rw [eg] at er; cases er
          | exc x => rw [eg] at er; cases er
          | ok k =>
            rw [eg] at er
            intro He se
            have ye : Ex2 H0c Hc H0d He := yd.trans (.up yd.c se)
            cases k with
            | false =>
              rw [if_neg Bool.false_ne_true]
              exact ⟨H0d, out, acc, rest, xc.trans ye, ye.b _ _ hD, (ye.d D0 _ hD).trans hD0, ro.mono ye.a, by omega, er, efin⟩
            | true =>
              rw [if_pos rfl]
              refine ⟨H0d, _, ye.c, rv1, ?_⟩
              simp only at er
              cases eb : fe ((wipeE ev vs).set i (some items[t])) with
              | bad => rw [eb] at er; cases er
              | exc x => rw [eb] at er; cases er
              | ok d =>
                rw [eb] at er
                simp only at er
                intro u H0f Hf yf rf
                have yt := ye.trans yf
                cases em2 : mapF (fun d => gp ((wipeE ev vs).set i (some d))) (fun d => fe ((wipeE ev vs).set i (some d))) (items.drop (t + 1)) with
                | bad => rw [em2] at er; cases er
                | exc x => exact (mapF_noexc _ _ _ _ em2).elim
                | ok rest2 =>
                  rw [em2] at er
                  cases er
                  have hD' := yt.b _ _ hD
                  have hD0' : H0f D0 = none := (yt.d D0 _ hD).trans hD0
                  refine ⟨acc, hD', by rw [ro.length]; exact Nat.lt_of_le_of_lt (show out.length ≤ 100000 by omega) (by decide), H0f, out ++ [d], acc ++ [u], rest2, ?_, upd_same, hD0', (ro.mono yt.a).append (.cons rf .nil), by rw [List.length_append]; simp only [List.length_singleton]; omega, rfl, ?_⟩
                  · have xt := xc.trans yt
                    refine ⟨xt.a, same_upd xt.b nD _, same_upd xt.c hD0' _, xt.d⟩
                  · rw [List.append_assoc]; exact efin
        · have et : t = items.length := by omega
          rw [et, List.drop_length] at er
          cases er
          rw [List.append_nil] at efin
          subst efin
          exact .inl ⟨wk.stop t Hc sb (by omega), p D0 H0c Hc xc nD hD0 (.inl ⟨out, acc, rfl, hD, ro⟩)⟩
    · rw [if_neg hl] at p; exact p.elim
section
variable {X : Cx} {E : XK} {elt tg iter : Expr} {ifs : List Expr} {scope : Scope} {own : List (Str × Nat)} {pos : Pos} {fs : Ev → Rs (List D)} {gp : Ev → Rs Bool} {fe : Ev → Rs D} {i : Nat}
theorem so_lc (hc : X.calm = true) (hN : X.N.Nodup) (hi : PI X tg iter (iS (zOf X E) fs)) (ok : BlkOk X.N X.env.scope scope own)
    (hg : ∀ (s : Shared) (H : Hp) (C : Addr) (cl : List (Str × Addr)) (fp : List Addr), PG (X.blk s H scope (compEnvC scope cl C X.env) fp) tg (gName i)) (ht : ∀ (s : Shared) (H : Hp) (C : Addr) (cl : List (Str × Addr)) (fp : List Addr), PTs (X.blk s H scope (compEnvC scope cl C X.env) fp) ifs (tB (zOf X E) gp))
    (he : ∀ (s : Shared) (H : Hp) (C : Addr) (cl : List (Str × Addr)) (fp : List Addr), PE (X.blk s H scope (compEnvC scope cl C X.env) fp) elt (tE (zOf X E) fe)) (hm : i ∈ own.map (·.2)) (hs : ∀ x, foldedSetIterable iter X.env x = pure x := by intro _; rfl) :
    SO X E (.ListComp elt [⟨tg, iter, ifs, 0⟩] scope pos) (eLc fs (own.map (·.2)) i gp fe) :=
  PE.weak (pe_lc hc hN hi ok hg ht he hs) fun _ _ _ q => lc_of hm q
/-- y = [..] on one line -/
theorem as_lc {k : Nat} {y : Str} {py : Pos} {spos : Pos} (hc : X.calm = true) (hN : X.N.Nodup) (hy : X.N[k]? = some y) (hyl : X.env.scope.names.lookup y = some .local)
    (hsw : swapsWith (.ListComp elt [⟨tg, iter, ifs, 0⟩] scope pos) (some (.Name y py)) spos.line X.env = pure true) (hi : PI X tg iter (iS (zOf X E) fs)) (ok : BlkOk X.N X.env.scope scope own)
    (hg : ∀ (s : Shared) (H : Hp) (C : Addr) (cl : List (Str × Addr)) (fp : List Addr), PG (X.blk s H scope (compEnvC scope cl C X.env) fp) tg (gName i)) (ht : ∀ (s : Shared) (H : Hp) (C : Addr) (cl : List (Str × Addr)) (fp : List Addr), PTs (X.blk s H scope (compEnvC scope cl C X.env) fp) ifs (tB (zOf X E) gp))
    (he : ∀ (s : Shared) (H : Hp) (C : Addr) (cl : List (Str × Addr)) (fp : List Addr), PE (X.blk s H scope (compEnvC scope cl C X.env) fp) elt (tE (zOf X E) fe)) (hm : i ∈ own.map (·.2)) (hs : ∀ x, foldedSetIterable iter X.env x = pure x := by intro _; rfl) :
    PS X (.Assign [.Name y py] (.ListComp elt [⟨tg, iter, ifs, 0⟩] scope pos) spos) (tAsg (tO (zOf X E) (eLc fs (own.map (·.2)) i gp fe)) (gName k)) :=
  PS.asg (ps_setLc hc hN hy hyl hsw hi ok hg ht he hs) fun _ _ _ q => lc_of hm q
end
theorem tO_toE {Z : Wh} {fe : Ev → Rs D} {σ : L2.St} {H : Hp} {Q : VK} (h : tE Z fe σ H Q) : tO Z fe σ H Q := by
  obtain ⟨H0, ev, s, r, p⟩ := h
  exact ⟨H0, ev, s, r, p.toO⟩
theorem PS.o2e {X : Cx} {E : XK} {st : Stmt} {i : Nat} {fe : Ev → Rs D} (h : PS X st (tAsg (tO (zOf X E) fe) (gName i))) : PS X st (tAsg (tE (zOf X E) fe) (gName i)) := PS.asg h fun _ _ _ q => tO_toE q
end Sk

namespace Sk
open PySem PySem.Spec PyProof.Rows L2

/-! ### x[i] = e, x a held list -/
def sIt (k : Nat) (fi fe : Ev → Rs D) : SEnv → Rs Fl := fun env => owL env[k]? fun ds => (fe (allV env)).bind fun d => if flat d = true then (fi (hidV env)).bind fun ix => (match ix with
  | .int j => (match ixN ds.length j with
    | some n => .ok (.nx (env.set k (.ow (.list (ds.set n d)))))
    | none => .bad)
  | _ => .bad) else .bad
section
variable {X : Cx} {E : XK} {om : Om} {o i e : Expr} {fi fe f1 f2 : Ev → Rs D} {pos tpos : Pos} {k : Nat}
theorem ss_it (hv : PE X o (tVar k)) (hi : SE X E i fi) (he : SE X E e fe) (ha : ∀ v, assign (.Subscript o i tpos) X.env v = (do
      let ov ← holding [v] (eval o X.env)
      let iv ← holding [v, ov] (eval i X.env)
      standAt tpos
      holding [v, ov, iv] (setItem ov iv v)
      release [v, ov, iv] []) := by intro _; rfl)
    (hs : swapsWithSole [.Subscript o i tpos] e pos.line X.env = pure false := by rfl) (hw : swappedStores [.Subscript o i tpos] e X.env = pure none := by rfl) (h1 : (assignEach [.Subscript o i tpos] X.env).map (·.2) = [assign (.Subscript o i tpos) X.env] := by rfl) :
    SS X E om (.Assign [.Subscript o i tpos] e pos) (sIt k fi fe) := by
  refine PS.weak (ps_asg he (pg_sub hv hi set_list ha) hs hw h1) fun Dn σ H ⟨B0, B, H0, env, S, p⟩ => ?_
  unfold sIt owL at p
  split at p
  · rename_i ds hd
    refine ⟨bor H0 H σ env, allV env, S.bor_s, S.allv, ?_⟩
    cases ef : fe (allV env) with
    | bad => rw [ef] at p; exact p
    | exc x => rw [ef] at p; exact p.excs S.x.b
    | ok d =>
      rw [ef] at p
      intro v Hb H' y r
      obtain ⟨y', hf⟩ := S.back y
      by_cases c : flat d = true
      · simp only [Rs.ok_bind, if_pos c] at p
        have S1 := S.grow y'
        have rd := Rp.flat_of hf c r
        obtain ⟨a, g1, g2, g3, g4⟩ := S1.ow k _ hd
        rcases g4 with ⟨es, vs, e1, e2, e3⟩ | ⟨ps, e1, _⟩
        · cases e1
          refine ⟨.ref a, g1, _, hidV env, S1.same, S1.hid, ?_⟩
          cases ei : fi (hidV env) with
          | bad => rw [ei] at p; exact p
          | exc x => rw [ei] at p; exact p.excs S1.x.b
          | ok ix =>
            rw [ei] at p
            intro w H2 H3 y2 r2
            cases ix with
            | int j =>
              simp only [Rs.ok_bind] at p
              cases en : ixN ds.length j with
              | none => rw [en] at p; exact p.elim
              | some n =>
                rw [en] at p
                refine ⟨a, vs, j, n, rfl, r2, y2.b _ _ e2, by rw [e3.length]; exact en, ?_⟩
                exact p σ H2 _ ((S1.grow y2).mut (d' := .list (ds.set n d)) hd g1 (.inl ⟨_, _, rfl, upd_same, (e3.mono y2.a).set n (rd.mono y2.a)⟩))
            | _ => exact p.elim
        · cases e1
      · simp only [Rs.ok_bind, if_neg c] at p
        exact p.elim
  · exact p.elim

/-! ### dicts from pairs of ints to ints -/
def ipOf : List (D × D) → Option IP
  | [] => some []
  | (.tuple [.int a, .int b], .int z) :: r => (ipOf r).map (((a, b), z) :: ·)
  | _ => none
theorem ipOf_some : ∀ {kvs : List (D × D)} {ps : IP}, ipOf kvs = some ps → kvs = ddt ps
  | [], ps, h => by simp [ipOf] at h; subst h; rfl
  | kv :: r, ps, h => by
    unfold ipOf at h
    split at h
    · rename_i e; cases e
    · rename_i a b z r' e
      cases e
      obtain ⟨qs, e1, rfl⟩ := Option.map_eq_some_iff.mp h
      rw [ipOf_some e1]; rfl
    · cases h
theorem ipOf_ddt : ∀ ps : IP, ipOf (ddt ps) = some ps
  | [] => rfl
  | ((a, b), z) :: r => by
    have ih := ipOf_ddt r
    show (ipOf (ddt r)).map (((a, b), z) :: ·) = _
    rw [ih]; rfl
def getIP (ps : IP) (k : Int × Int) : Option Int := (ps.find? fun p => decide (p.1 = k)).map (·.2)
def putIP (ps : IP) (k : Int × Int) (z : Int) : IP := if ps.any (fun p => decide (p.1 = k)) = true then ps.map (fun p => if p.1 = k then (p.1, z) else p) else ps ++ [(k, z)]
theorem ipkey (a b c d : Int) : (([.inl a, .inl b] : List Key) = [.inl c, .inl d]) ↔ ((a, b) = (c, d)) := by
  constructor
  · intro h
    simp only [List.cons.injEq, Sum.inl.injEq, and_true] at h
    rw [h.1, h.2]
  · intro h
    cases h; rfl
theorem getIP_val (k : Int × Int) : ∀ ps : IP, valV (dkv ps) [.inl k.1, .inl k.2] = (getIP ps k).map V.int
  | [] => rfl
  | ((a, b), z) :: r => by
    obtain ⟨c, d⟩ := k
    have ih := getIP_val (c, d) r
    by_cases h : (a, b) = (c, d)
    · show valV (([.inl a, .inl b], V.int z) :: dkv r) [.inl c, .inl d] = _
      rw [valV_pos ((ipkey a b c d).mpr h)]
      unfold getIP
      rw [List.find?_cons, decide_eq_true h]; rfl
    · show valV (([.inl a, .inl b], V.int z) :: dkv r) [.inl c, .inl d] = _
      rw [valV_neg (fun q => h ((ipkey a b c d).mp q))]
      unfold getIP
      rw [List.find?_cons, decide_eq_false h]
      exact ih
theorem putIP_val (k : Int × Int) (z : Int) (ps : IP) : putK (dkv ps) [.inl k.1, .inl k.2] (V.int z) = dkv (putIP ps k z) := by
  obtain ⟨c, d⟩ := k
  have ea : (dkv ps).any (fun kv => decide (kv.1 = [.inl c, .inl d])) = ps.any fun p => decide (p.1 = (c, d)) := by
    unfold dkv
    rw [List.any_map]
    congr 1
    funext p
    obtain ⟨⟨a, b⟩, y⟩ := p
    exact decide_eq_decide.mpr (ipkey a b c d)
  unfold putK putIP
  rw [ea]
  by_cases h : ps.any (fun p => decide (p.1 = (c, d))) = true
  · rw [if_pos h, if_pos h]
    unfold dkv
    rw [List.map_map, List.map_map]
    refine List.map_congr_left fun p _ => ?_
    obtain ⟨⟨a, b⟩, y⟩ := p
    by_cases q : (a, b) = (c, d)
    · simp only [Function.comp, if_pos q, if_pos ((ipkey a b c d).mpr q)]
    · simp only [Function.comp, if_neg q, if_neg (fun w => q ((ipkey a b c d).mp w))]
  · rw [if_neg h, if_neg h]
    unfold dkv
    rw [List.map_append]; rfl
theorem so_dnew : SO X E (.Dict [] [] pos) (eC (.dict [])) := PE.weak pe_dnewT fun σ H Q ⟨H0, ev, s, rv, p⟩ q n => p q H0 _ (Ex2.out s n _) n (s.free n) (.inr ⟨[], rfl, upd_same⟩)
def dicB {α : Type} (d : D) (f : IP → Rs α) : Rs α := match d with
  | .dict kvs => (match ipOf kvs with
    | some ps => f ps
    | none => .bad)
  | _ => .bad
def intB {α : Type} (d : D) (f : Int → Rs α) : Rs α := match d with
  | .int i => f i
  | _ => .bad
def eDg (fd f1 f2 : Ev → Rs D) : Ev → Rs D := fun ev => (fd ev).bind fun d => dicB d fun ps => (f1 ev).bind fun a => intB a fun a => (f2 ev).bind fun b => intB b fun b => rsI (getIP ps (a, b))
theorem se_dg {e1 e2 : Expr} {fd : Ev → Rs D} {kk : Nat} {tp : Pos} (hu : X.A.units + 1 < cLine) (ho : SE X E o fd) (h1 : SE X E e1 f1) (h2 : SE X E e2 f2) (hs : NoSl (.Tuple [e1, e2] kk tp) := by intro _ _; rfl)
    (hs1 : starEach [e1, e2] X.env = (false, eval e1 X.env) :: starEach [e2] X.env := by rfl) (hs2 : starEach [e2] X.env = (false, eval e2 X.env) :: starEach [] X.env := by rfl) :
    SE X E (.Subscript o (.Tuple [e1, e2] kk tp) pos) (eDg fd f1 f2) := by
  refine PE.weak (pe_dget hu ho (pe_tup (pa_cons h1 (pa_cons h2 pa_nil hs2) hs1)) hs) fun σ H Q q => ?_
  obtain ⟨H0, ev, s, rv, p⟩ := q
  refine ⟨H0, ev, s, rv, ?_⟩
  unfold eDg at p
  cases ea : fd ev with
  | bad => rw [ea] at p; exact p
  | exc x => rw [ea] at p; exact p
  | ok d =>
    rw [ea] at p
    intro v H1 H' x1 r1
    replace p := p.step x1
    cases d <;> first | exact p.elim | skip
    case dict kvs =>
      simp only [Rs.ok_bind, dicB] at p
      cases ek : ipOf kvs with
      | none => rw [ek] at p; exact p.elim
      | some ps =>
        rw [ek] at p
        rcases r1 with ⟨l, qs, rfl, hl, eq⟩ | ⟨_, _, _, _, ek2, _⟩
        rotate_left
        · rw [ek2] at ek; cases ek
        have : qs = ps := by
          have h := ipOf_ddt qs
          rw [← eq, ek] at h
          exact (Option.some.inj h).symm
        subst this
        simp only at p
        refine ⟨H1, ev, x1.c, rv.mono x1.a, ?_⟩
        cases eb : f1 ev with
        | bad => rw [eb] at p; exact p
        | exc x => rw [eb] at p; exact p
        | ok a =>
          rw [eb] at p
          intro v2 H2 H2' x2 r2
          replace p := p.step x2
          cases a <;> first | exact p.elim | skip
          case int a =>
            simp only [Rs.ok_bind, intB] at p
            refine ⟨H2, ev, x2.c, rv.mono (x1.a.trans x2.a), ?_⟩
            cases ec : f2 ev with
            | bad => rw [ec] at p; exact p
            | exc x => rw [ec] at p; exact p
            | ok b =>
              rw [ec] at p
              intro v3 H3 H3' x3 r3
              replace p := p.step x3
              cases b <;> first | exact p.elim | skip
              case int b =>
                simp only [Rs.ok_bind, intB] at p
                refine ⟨by show 2 ≤ sizeLine; decide, fun t nt => ?_⟩
                obtain ⟨z, ez, q⟩ := rsI_run x3.c p
                have hd : (upd H3' t (.tup [v2, v3])) l = some (.dT (dkv qs)) := same_new nt _ _ _ (x3.b _ _ (x2.b _ _ (x1.c _ _ hl)))
                have hk : (upd H3' t (.tup [v2, v3])) t = some (.tup (([.inl a, .inl b] : List Key).map kV)) := by rw [upd_same, show v2 = V.int a from r2, show v3 = V.int b from r3]; rfl
                have g := DGet.t hd hk
                rw [getIP_val (a, b), ez] at g
                refine ⟨l, V.int z, rfl, g, ?_⟩
                have p2 := p.step (Ex2.up x3.c (same_new nt (.tup [v2, v3])))
                rw [ez] at p2
                exact PostE.now (d := .int z) (x3.c.trans (same_new nt _)) p2 rfl
def owD {α : Type} (o : Option Sl) (k : IP → Rs α) : Rs α := match o with
  | some (.ow (.dict kvs)) => (match ipOf kvs with
    | some ps => k ps
    | none => .bad)
  | _ => .bad
def sDp (k : Nat) (f1 f2 fe : Ev → Rs D) : SEnv → Rs Fl := fun env => owD env[k]? fun ps => (fe (allV env)).bind fun d => intB d fun z => (f1 (hidV env)).bind fun a => intB a fun a => (f2 (hidV env)).bind fun b => intB b fun b =>
  if ps.length ≤ 100000 then .ok (.nx (env.set k (.ow (.dict (ddt (putIP ps (a, b) z)))))) else .bad
theorem ss_dp {e1 e2 : Expr} {kk : Nat} {tp : Pos} (hu : X.A.units + 1 < cLine) (hv : PE X o (tVar k)) (h1 : SE X E e1 f1) (h2 : SE X E e2 f2) (he : SE X E e fe) (hsw : swapsWith e (some (.Subscript o (.Tuple [e1, e2] kk tp) tpos)) pos.line X.env = pure false := by rfl)
    (hs1 : starEach [e1, e2] X.env = (false, eval e1 X.env) :: starEach [e2] X.env := by rfl) (hs2 : starEach [e2] X.env = (false, eval e2 X.env) :: starEach [] X.env := by rfl) :
    SS X E om (.Assign [.Subscript o (.Tuple [e1, e2] kk tp) tpos] e pos) (sDp k f1 f2 fe) := by
  refine PS.weak (ps_dput hu hv (pe_tup (pa_cons h1 (pa_cons h2 pa_nil hs2) hs1)) he hsw) fun Dn σ H ⟨B0, B, H0, env, S, p⟩ => ?_
  unfold sDp owD at p
  split at p
  · rename_i kvs hd
    cases ek : ipOf kvs with
    | none => rw [ek] at p; exact p.elim
    | some ps =>
      rw [ek] at p
      simp only at p
      have ekv := ipOf_some ek
      refine ⟨bor H0 H σ env, allV env, S.bor_s, S.allv, ?_⟩
      cases ef : fe (allV env) with
      | bad => rw [ef] at p; exact p
      | exc x => rw [ef] at p; exact p.excs S.x.b
      | ok d =>
        rw [ef] at p
        intro v Hb H' y r
        obtain ⟨y', hf⟩ := S.back y
        have S1 := S.grow y'
        cases d <;> first | exact p.elim | skip
        case int z =>
          simp only [Rs.ok_bind, intB] at p
          obtain ⟨l, g1, g2, g3, g4⟩ := S1.ow k _ hd
          rcases g4 with ⟨es, vs, e1', _⟩ | ⟨qs, e1', e2'⟩
          · cases e1'
          · have : qs = ps := by
              have h := ipOf_ddt qs
              have e3 : kvs = ddt qs := by injection e1'
              rw [← e3, ek] at h
              exact (Option.some.inj h).symm
            subst this
            refine ⟨.ref l, g1, _, hidV env, S1.same, S1.hid, ?_⟩
            cases eb : f1 (hidV env) with
            | bad => rw [eb] at p; exact p
            | exc x => rw [eb] at p; exact p.excs S1.x.b
            | ok a =>
              rw [eb] at p
              intro v2 H2 H2' x2 r2
              have S2 := S1.grow x2
              cases a <;> first | exact p.elim | skip
              case int a =>
                simp only [Rs.ok_bind, intB] at p
                refine ⟨H2, hidV env, S2.same, S2.hid, ?_⟩
                cases ec : f2 (hidV env) with
                | bad => rw [ec] at p; exact p
                | exc x => rw [ec] at p; exact p.excs S2.x.b
                | ok b =>
                  rw [ec] at p
                  intro v3 H3 H3' x3 r3
                  have S3 := S2.grow x3
                  cases b <;> first | exact p.elim | skip
                  case int b =>
                    simp only [Rs.ok_bind, intB] at p
                    by_cases c : qs.length ≤ 100000
                    · rw [if_pos c] at p
                      refine ⟨by show 2 ≤ sizeLine; decide, fun t nt => ?_⟩
                      have S4 := S3.up (same_new nt (.tup [v2, v3]))
                      have hdl : (upd H3' t (.tup [v2, v3])) l = some (.dT (dkv qs)) := same_new nt _ _ _ (x3.b _ _ (x2.b _ _ e2'))
                      have hk : (upd H3' t (.tup [v2, v3])) t = some (.tup (([.inl a, .inl b] : List Key).map kV)) := by rw [upd_same, show v2 = V.int a from r2, show v3 = V.int b from r3]; rfl
                      have g := DPut.t (v := V.int z) hdl hk (by unfold dkv; rw [List.length_map]; exact Nat.lt_of_le_of_lt c (by decide))
                      rw [putIP_val (a, b)] at g
                      rw [← (show v = V.int z from r)] at g
                      exact ⟨l, _, rfl, g, p σ H3 _ (S4.mut (d' := .dict (ddt (putIP qs (a, b) z))) hd g1 (.inr ⟨_, rfl, upd_same⟩))⟩
                    · rw [if_neg c] at p; exact p.elim
  · exact p.elim
end

/-! ### defs -/
/-- the same of a new list of new lists -/
def PostN (Z : Wh) (H0 H : Hp) (r : Rs D) (Q : VK) : Prop := match r with
  | .ok d => ∃ dss, d = onD dss ∧ ∀ p ps H0' H', Ex2 H0 H H0' H' → (∀ q ∈ p :: ps, H q = none ∧ H0' q = none) → OwN Z.K H0' H' dss p ps → Q (.ref p) H'
  | .exc x => ∀ H', Same H H' → EX Z.mg Z.E x H'
  | .bad => False
theorem PostN.step {Z : Wh} {H0 H H0' H' : Hp} {r : Rs D} {Q : VK} (x : Ex2 H0 H H0' H') (h : PostN Z H0 H r Q) : PostN Z H0' H' r Q := by
  cases r with
  | ok d =>
    obtain ⟨dss, e, h⟩ := h
    exact ⟨dss, e, fun p ps A B y n q => h p ps A B (x.trans y) (fun b hb => ⟨x.b.free (n b hb).1, (n b hb).2⟩) q⟩
  | exc e => exact fun B y => h B (x.b.trans y)
  | bad => exact h
def tN (Z : Wh) (fe : Ev → Rs D) : TE := fun σ H Q => ∃ H0 ev, Same H0 H ∧ RpV Z.K H0 σ ev ∧ PostN Z H0 H (fe ev) Q
abbrev SN (X : Cx) (E : XK) (e : Expr) (fe : Ev → Rs D) : Prop := PE X e (tN (zOf X E) fe)
def PostM (Z : Wh) (om : Om) (H0 H : Hp) (r : Rs D) (Q : VK) : Prop := match om with
  | .e => PostE Z H0 H r Q
  | .o => PostO Z H0 H r Q
  | .n => PostN Z H0 H r Q
theorem PostM.bad {Z : Wh} {om : Om} {H0 H : Hp} {Q : VK} (h : PostM Z om H0 H .bad Q) : False := by cases om <;> exact h
theorem PostM.exc {Z : Wh} {om : Om} {H0 H : Hp} {Q : VK} {x : String} (h : PostM Z om H0 H (.exc x) Q) : ∀ H', Same H H' → EX Z.mg Z.E x H' := by cases om <;> exact h
def spF (K : PySem.W.Frag) (mg : Str → Option Value) (om : Om) (R : List D → Rs D) : Sp := fun vs H Q E => ∃ H0 ds, Same H0 H ∧ RpL K H0 ds vs ∧ PostM ⟨K, mg, E⟩ om H0 H (R ds) Q
structure Kn (P : Program) (w : World) (K : PySem.W.Frag) (mg : Str → Option Value) (base : Heap) (CX : CXT) (k : Nat) (x : Str) (om : Om) (R : List D → Rs D) : Prop where
  ex : ∃ f fd ps, FnOk P w K mg base CX k f fd ps (spF K mg om R) ∧ mg x = some (.ref f) ∧ PySem.W.keepIn K (.ref f) = true ∧ Binds K fd ps []
section
variable {X : Cx} {E : XK} {CX : CXT} {k : Nat} {x : Str} {R : List D → Rs D} {p pos : Pos} {e : Expr} {es : List Expr} {fr : Ev → Rs (List D)}
theorem se_call (G : Kn X.prog X.w X.K X.mg X.base CX k x .e R) (hr : Room k X.A) (hx : Passes CX X E) (ha : SA X E (e :: es) fr) (hg : Gl X x := by rfl) (hdb : (x == ("__debug__" : Str)) = false := by decide)
    (he : starEach (e :: es) X.env = (false, eval e X.env) :: starEach es X.env := by rfl) (hpl : (backTo pos (starEach es X.env)).any (·.1) = false := by rfl) : SE X E (.Call (.Name x p) (e :: es) [] pos) (eA R fr) := by
  obtain ⟨f, fd, ps, F, hm, hk, hb⟩ := G.ex
  refine PE.weak (pe_call F hr hg hm hk hb .nil hx ha hdb he hpl) fun σ H Q q => ?_
  refine tA_of (P := fun H0 H r => PostE (zOf X E) H0 H r Q) q (fun _ _ _ _ _ x p => p.step x) (fun _ _ _ p => p) (fun _ _ p => p) fun H0 H xs as s r p => ?_
  rw [List.append_nil]
  exact ⟨H0, as, s, r, p⟩
theorem so_call (G : Kn X.prog X.w X.K X.mg X.base CX k x .o R) (hr : Room k X.A) (hx : Passes CX X E) (ha : SA X E (e :: es) fr) (hg : Gl X x := by rfl) (hdb : (x == ("__debug__" : Str)) = false := by decide)
    (he : starEach (e :: es) X.env = (false, eval e X.env) :: starEach es X.env := by rfl) (hpl : (backTo pos (starEach es X.env)).any (·.1) = false := by rfl) : SO X E (.Call (.Name x p) (e :: es) [] pos) (eA R fr) := by
  obtain ⟨f, fd, ps, F, hm, hk, hb⟩ := G.ex
  refine PE.weak (pe_call F hr hg hm hk hb .nil hx ha hdb he hpl) fun σ H Q q => ?_
  refine tA_of (P := fun H0 H r => PostO (zOf X E) H0 H r Q) q (fun _ _ _ _ _ x p => p.step x) (fun _ _ _ p => p) (fun _ _ p => p) fun H0 H xs as s r p => ?_
  rw [List.append_nil]
  exact ⟨H0, as, s, r, p⟩
end
def endF (om : Om) : Fl → Rs D
  | .rt d => .ok d
  | .nx _ => (match om with
    | .e => .ok .none
    | .o => .bad
    | .n => .bad)
  | .bk _ => .bad
  | .ct _ => .bad
def fnOf (m ar : Nat) (om : Om) (fs : SEnv → Rs Fl) (ds : List D) : Rs D := if ds.length = ar then (fs (ds.map Sl.sh ++ List.replicate (m - ar) Sl.un)).bind (endF om) else .bad
theorem start_ok {K : PySem.W.Frag} {H0 H : Hp} {N : List Str} {vs : List V} {ds : List D} (s : Same H0 H) (r : RpL K H0 ds vs) : Stt K H0 H H0 H (L2.start N vs) (ds.map Sl.sh ++ List.replicate (N.length - ds.length) Sl.un) := by
  have hl := r.length
  have noow : ∀ (i : Nat) (t : Sl), (ds.map Sl.sh ++ List.replicate (N.length - ds.length) Sl.un)[i]? = some t → (∃ d, t = .sh d) ∨ t = .un := fun i t e => by
    rw [List.getElem?_append] at e
    split at e
    · rw [List.getElem?_map] at e
      obtain ⟨y, _, z⟩ := Option.map_eq_some_iff.mp e
      exact .inl ⟨y, z.symm⟩
    · obtain ⟨h1, h2⟩ := List.getElem?_eq_some_iff.mp e
      rw [List.getElem_replicate] at h2
      exact .inr h2.symm
  refine ⟨Ex2.refl s, ?_, fun i d e => ?_, fun i d e => (noow i _ e).elim (fun ⟨_, z⟩ => Sl.noConfusion z) (fun z => Sl.noConfusion z), fun i d e => (noow i _ e).elim (fun ⟨_, z⟩ => Sl.noConfusion z) (fun z => Sl.noConfusion z), fun i j t u b h _ f _ => (noow i t h).elim (fun ⟨_, z⟩ => by subst z; exact f.elim) (fun z => by subst z; exact f.elim)⟩
  · unfold L2.start
    simp only [List.length_append, List.length_map, List.length_replicate, hl]
  · rw [List.getElem?_append] at e
    split at e
    · rename_i hi
      rw [List.getElem?_map] at e
      obtain ⟨y, hy, z⟩ := Option.map_eq_some_iff.mp e
      cases z
      obtain ⟨v, hv, rv⟩ := r.get hy
      refine ⟨v, ?_, rv⟩
      unfold L2.start
      rw [List.getElem?_append_left (by rw [List.length_map]; exact (List.getElem?_eq_some_iff.mp hv).1), List.getElem?_map, hv]; rfl
    · obtain ⟨h1, h2⟩ := List.getElem?_eq_some_iff.mp e
      rw [List.getElem_replicate] at h2
      cases h2
section
variable {P : Program} {w : World} {K : PySem.W.Frag} {mg : Str → Option Value} {base : Heap} {x qual : Str} {st : Stmt} {f : Addr} {fd : FuncData} {N ps : List Str} {k : Nat} {om : Om} {fs : SEnv → Rs Fl} {R : List D → Rs D}
theorem fn_body (hR : R = fnOf N.length ps.length om fs) {vs : List V} {H : Hp} {Q : VK} {E : XK} (h : spF K mg om R vs H Q E) : tS ⟨K, mg, E⟩ om fs { nx := fun _ H' => Q .non H', rt := Q } (L2.start N vs) H := by
  obtain ⟨H0, ds, s, r, p⟩ := h
  subst hR
  by_cases hl : ds.length = ps.length
  · refine ⟨H0, H, H0, _, start_ok s r, ?_⟩
    rw [hl]
    unfold fnOf at p
    simp only [if_pos hl] at p
    cases ef : fs (ds.map Sl.sh ++ List.replicate (N.length - ps.length) Sl.un) with
    | bad => rw [ef] at p; exact p.bad
    | exc e => rw [ef] at p; exact p.exc
    | ok fl =>
      rw [ef] at p
      cases fl with
      | nx env =>
        cases om with
        | o => exact p.elim
        | n => exact p.elim
        | e => exact fun σ H0' H' S => p .non H0' H' S.x rfl
      | rt d =>
        cases om with
        | o => exact fun a H0' H' y n n0 o => p a H0' H' y n n0 o
        | e => exact fun v H0' H' y r => p v H0' H' y r
        | n =>
          obtain ⟨dss, e, p⟩ := p
          exact ⟨dss, e, fun a qs H0' H' y n r => p a qs H0' H' y n r⟩
      | bk env => exact (p.bad).elim
      | ct env => exact (p.bad).elim
  · unfold fnOf at p
    simp only [if_neg hl] at p
    exact (p.bad).elim
theorem fn_len (hR : R = fnOf N.length ps.length om fs) : ∀ vs H Q E, spF K mg om R vs H Q E → vs.length = ps.length := fun vs H Q E h => by
  obtain ⟨H0, ds, s, r, p⟩ := h
  subst hR
  by_cases hl : ds.length = ps.length
  · rw [r.length]; exact hl
  · unfold fnOf at p
    simp only [if_neg hl] at p
    exact (p.bad).elim
/-- a def that lets nothing out -/
theorem fn_0 (F : Fun K x qual st f fd) (S : FnScope N ps (defScope st)) (hR : R = fnOf N.length ps.length om fs)
    (hb : ∀ (cdv : Value) (A : Around) (outer : List Env) (s : Shared) (H : Hp) (E : XK), Room k (A.deeper (envOfC qual (defScope st) s.heap.objs.size f cdv)) →
      PSs (cxOf CX0 P w K mg base N qual (defScope st) f cdv A outer s H E).nox (defBody st) (tS ⟨K, mg, E⟩ om fs)) : FnOk P w K mg base CX0 (k + 1) f fd ps (spF K mg om R) :=
  F.ok S (fn_len hR) fun cdv A outer s H vs Q E hr h => ⟨_, hb cdv A outer s H E hr, fn_body hR h⟩
/-- a def that may raise -/
theorem fn_X (F : Fun K x qual st f fd) (S : FnScope N ps (defScope st)) (hR : R = fnOf N.length ps.length om fs)
    (hb : ∀ (cdv : Value) (A : Around) (outer : List Env) (s : Shared) (H : Hp) (E : XK), Room k (A.deeper (envOfC qual (defScope st) s.heap.objs.size f cdv)) →
      PSs (cxOf (L2.CX P w) P w K mg base N qual (defScope st) f cdv A outer s H E) (defBody st) (tS ⟨K, mg, E⟩ om fs)) : FnOk P w K mg base (L2.CX P w) (k + 1) f fd ps (spF K mg om R) :=
  F.okX S (fn_len hR) fun cdv A outer s H vs Q E hr h => ⟨_, hb cdv A outer s H E hr, fn_body hR h⟩
/-- no promise at level 0 -/
theorem fn_none {CX : CXT} (hR : ∀ ds, R ds = .bad) : FnOk P w K mg base CX k f fd ps (spF K mg om R) := by
  have no : ∀ vs H Q E, ¬ spF K mg om R vs H Q E := fun vs H Q E h => by
    obtain ⟨H0, ds, s, r, p⟩ := h
    rw [hR] at p
    exact p.bad
  exact ⟨fun vs H Q E h => (no vs H Q E h).elim, fun A outer s H args us vs Q E _ _ _ _ h => (no vs H Q E h).elim⟩
end
/-- a def of the text: where it stands -/
structure Df (K : PySem.W.Frag) (mg : Str → Option Value) (x : Str) (st : Stmt) (ps : List Str) : Prop where
  ex : ∃ f fd, Fun K x x st f fd ∧ mg x = some (.ref f) ∧ Binds K fd ps []
/-- an own exception class -/
structure Xc (K : PySem.W.Frag) (mg : Str → Option Value) (x : Str) : Prop where
  ex : ∃ C, mg x = some (.ref C) ∧ PySem.W.excIn K C [.type "ValueError", .type "Exception", .type "BaseException", .type "object"] "ValueError.__new__" = true ∧ PySem.W.keepIn K (.ref C) = true ∧
    PySem.W.subIn K (.ref C) (.type "BaseException") = some true ∧ PySem.W.typeIn K (.ref C) = some (.type "type")
section
variable {P : Program} {w : World} {K : PySem.W.Frag} {mg : Str → Option Value} {base : Heap} {x : Str} {st : Stmt} {N ps : List Str} {om : Om}
theorem kn_0 {R : Nat → List D → Rs D} {fs : Nat → SEnv → Rs Fl} (Dx : Df K mg x st ps) (S : FnScope N ps (defScope st)) (h0 : ∀ ds, R 0 ds = .bad) (hR : ∀ n, R (n + 1) = fnOf N.length ps.length om (fs n))
    (hb : ∀ n f, mg x = some (.ref f) → Kn P w K mg base CX0 n x om (R n) → ∀ (cdv : Value) (A : Around) (outer : List Env) (s : Shared) (H : Hp) (E : XK), Room n (A.deeper (envOfC x (defScope st) s.heap.objs.size f cdv)) →
      PSs (cxOf CX0 P w K mg base N x (defScope st) f cdv A outer s H E).nox (defBody st) (tS ⟨K, mg, E⟩ om (fs n))) : ∀ n, Kn P w K mg base CX0 n x om (R n)
  | 0 => by
    obtain ⟨f, fd, F, hm, hbi⟩ := Dx.ex
    exact ⟨f, fd, ps, fn_none h0, hm, F.kp, hbi⟩
  | n + 1 => by
    have ih := kn_0 Dx S h0 hR hb n
    obtain ⟨f, fd, F, hm, hbi⟩ := Dx.ex
    exact ⟨f, fd, ps, fn_0 F S (hR n) (hb n f hm ih), hm, F.kp, hbi⟩
theorem kn_X {R : Nat → List D → Rs D} {fs : Nat → SEnv → Rs Fl} (Dx : Df K mg x st ps) (S : FnScope N ps (defScope st)) (h0 : ∀ ds, R 0 ds = .bad) (hR : ∀ n, R (n + 1) = fnOf N.length ps.length om (fs n))
    (hb : ∀ n f, mg x = some (.ref f) → Kn P w K mg base (L2.CX P w) n x om (R n) → ∀ (cdv : Value) (A : Around) (outer : List Env) (s : Shared) (H : Hp) (E : XK), Room n (A.deeper (envOfC x (defScope st) s.heap.objs.size f cdv)) →
      PSs (cxOf (L2.CX P w) P w K mg base N x (defScope st) f cdv A outer s H E) (defBody st) (tS ⟨K, mg, E⟩ om (fs n))) : ∀ n, Kn P w K mg base (L2.CX P w) n x om (R n)
  | 0 => by
    obtain ⟨f, fd, F, hm, hbi⟩ := Dx.ex
    exact ⟨f, fd, ps, fn_none h0, hm, F.kp, hbi⟩
  | n + 1 => by
    have ih := kn_X Dx S h0 hR hb n
    obtain ⟨f, fd, F, hm, hbi⟩ := Dx.ex
    exact ⟨f, fd, ps, fn_X F S (hR n) (hb n f hm ih), hm, F.kp, hbi⟩
end
/-! ### the law -/
def lawSp (K : PySem.W.Frag) : Sp := fun vs H Q _ => ∃ (a : Addr) (ns : List Int), vs = [.ref a] ∧ SqL K H a (ns.map V.int) ∧ ns.length ≤ 63 ∧ ∀ H', Q (.bl true) H'
theorem law_fin {P : Program} {w : World} {K : PySem.W.Frag} {mg : Str → Option Value} {base : Heap} {CX : CXT} {k : Nat} {f : Addr} {fd : FuncData} {ps : List Str} {R : List D → Rs D}
    (F : FnOk P w K mg base CX k f fd ps (spF K mg .e R)) (hR : ∀ ns : List Int, ns.length ≤ 63 → R [.list (ns.map .int)] = .ok (.bool true)) : FnOk P w K mg base CX k f fd ps (lawSp K) :=
  F.imp fun vs H Q E h => by
    obtain ⟨a, ns, rfl, hS, hl, q⟩ := h
    refine ⟨H, [.list (ns.map .int)], Same.refl H, .cons ⟨a, _, rfl, hS, RpL.of_ints ns⟩ .nil, ?_⟩
    show PostE _ _ _ (R [.list (ns.map .int)]) Q
    rw [hR ns hl]
    intro v H0' H' y r
    cases (show v = V.bl true from r)
    exact q H'
end Sk

namespace Sk
open PySem PySem.Spec PyProof.Rows L2 RT
section
variable {prog : Program} {w : World} {A : Around} {E : Value → Shared → Prop} {s : Shared}
/-- a fresh list is filled from a reversed one -/
theorem fill_rev {R : Result → Shared → Prop} {it l S : Addr} {items : Array Value} (hh : A.handled = none) (hit : s.heap.IsRevIter it l ((items.size : Int) - 1)) (hl : s.heap.IsList l items) (hne : l ≠ it) (hn : items.size ≤ sizeLine)
    (hS : s.heap.get? S = some { cls := .type "list", data := .seq #[] }) (hSl : S ≠ l) (hSi : S ≠ it)
    (hR : ∀ h' tk acc c, (∀ b o, b ≠ S → b ≠ it → s.heap.get? b = some o → h'.get? b = some o) → h'.get? S = some { cls := .type "list", dict := none, data := .seq acc c, slots := #[] } →
      ItemsOf (fun i v => items[items.size - 1 - i]? = some v) acc items.size → R (.ok (.ret .none)) { s with heap := h', toks := tk }) :
    wpAny (model prog w) A.in1 (Builtin.«list.__init__» ⟨[.ref S, .ref it], []⟩)
      (fun fin s' => match fin with | .done f => R (.ok f) s' | .again c' => c'.quiet = true ∧ codeAny (model prog w) A c' R s') (fun e s' => R (.error e) s') s := by
  have W := (Walks.listRev (prog := prog) (w := w) (A := A.in1) hh it l hne items).toS
  have hSf : S ∉ [it, l] := by simp only [List.mem_cons, List.not_mem_nil, or_false, not_or]; exact ⟨hSi, hSl⟩
  show wpAny _ A.in1 (Builtin.List.listItems (.ref S) >>= fun old => Builtin.List.listUpdate (.ref S) (fun _ => #[]) >>= fun _ => letGo old.toList.reverse >>= fun _ => Builtin.List.listExtendWith (.ref S) (.ref it) .none) _ _ s
  refine wpAny_bind ?_
  unfold Builtin.List.listItems
  refine wpAny_bind (wpAny_seqItems hS rfl (wpAny_pure ?_))
  show wpAny _ A.in1 (updateSeq S (fun _ => #[]) >>= fun _ => letGo (#[] : Array Value).toList.reverse >>= fun _ => Builtin.List.listExtendWith (.ref S) (.ref it) .none) _ _ s
  refine wpAny_bind (wpAny_updateSeq hS rfl ?_)
  have hS2 := Heap.get?_update_self (Obj.mapSeq (fun _ => (#[] : Array Value))) hS rfl
  have oth : ∀ b o, b ≠ S → s.heap.get? b = some o → (s.heap.update S (Obj.mapSeq (fun _ => (#[] : Array Value)))).get? b = some o := fun b o hb e => (Heap.get?_update_other _ _ (Ne.symm hb)).trans e
  refine wpAny_bind (wpAny_letGo ?_)
  generalize hh2 : s.heap.update S (Obj.mapSeq (fun _ => (#[] : Array Value))) = h2 at hS2 oth ⊢
  have hit2 : h2.IsRevIter it l ((items.size : Int) - 1) := hit.at fun o e => oth it o (Ne.symm hSi) e
  have hl2 : h2.IsList l items := hl.at fun o e => oth l o (Ne.symm hSl) e
  have hT : ({ s with heap := h2 } : Shared).TypeIs (.ref it) "list_reverseiterator" := Heap.IsRevIter.typeIs (s := { s with heap := h2 }) hit2
  have h1 : Builtin.List.listSameRef (.ref S) (.ref it) = false := by simp [Builtin.List.listSameRef, hSi]
  unfold Builtin.List.listExtendWith
  refine wpAny_bind (wpAny_typeOf hT ?_)
  rw [if_neg (by rw [h1]; decide)]
  refine wpAny_bind (wpAny_pyIter_revIter (s := { s with heap := h2 }) hit2 ?_)
  refine wpAny_bind (wpAny_holding ?_)
  unfold Builtin.List.listLengthHint
  refine wpAny_bind (wpAny_specialOf hT nolen_lri ?_)
  show wpAny _ A.in1 (specialOf (Value.ref it) (Str.ofString "__length_hint__") >>= _) _ _ _
  refine wpAny_bind (wpAny_specialOf hT hint_lri ?_)
  generalize hid : ("list_reverseiterator.__length_hint__" : String) = id0
  wp_delta
  rw [show splitId id0 = some ("list_reverseiterator", "__length_hint__") from by subst hid; decide +kernel]
  subst hid
  refine wpAny_bind (wpAny_isInstance (b := true) hT (by rw [isSubtype_type]; kernel_rfl) ?_)
  refine wpAny_pure ?_
  rw [if_neg (by decide)]
  have e0 : ((items.size : Nat) : Int) - 1 - ((0 : Nat) : Int) = (items.size : Int) - 1 := by omega
  refine wpAny_pure ⟨plainId_quiet F.plain_extend_loop _, codeAny_extend_loopS W hn S hSf _ items.size 0 _ _ _ rfl (Nat.zero_le _) ⟨Nat.zero_le _, by rw [e0]; exact hit2, hl2⟩ hS2 (ItemsOf.nil _) fun s' acc' c' hm hS' hacc => ?_⟩
  rw [Moved.eq_with hm]
  refine hR s'.heap s'.toks acc' c' (fun b o hb hb2 e => hm.heap b o (fun hmem => ?_) (oth b o hb e)) hS' hacc
  rcases List.mem_cons.mp hmem with e' | hmem
  · exact hb e'
  · exact hb2 (List.mem_singleton.mp hmem)
theorem call_listRev {Q : Value → Shared → Prop} {it l : Addr} {items : Array Value} (hh : A.handled = none) (hit : s.heap.IsRevIter it l ((items.size : Int) - 1)) (hl : s.heap.IsList l items) (hne : l ≠ it) (hn : items.size ≤ sizeLine)
    (hQ : ∀ h' tk acc c, (∀ b o, b ≠ it → s.heap.get? b = some o → h'.get? b = some o) → h'.get? s.heap.objs.size = some { cls := .type "list", dict := none, data := .seq acc c, slots := #[] } →
      ItemsOf (fun i v => items[items.size - 1 - i]? = some v) acc items.size → Q (.ref s.heap.objs.size) { s with heap := h', toks := tk }) :
    wpAny (model prog w) A (call (.type "list") [.ref it]) Q E s := by
  refine callType_codes (Q₁ := fun obj s₁ => obj = .ref s.heap.objs.size ∧ s₁ = { s with heap := s.heap.push { cls := .type "list", data := .seq #[] } }) F.called_list (F.typeCall_list_1 _) F.entry_list_init
    (code_list_new _ ⟨rfl, rfl⟩) fun obj s₁ h₁ => ?_
  obtain ⟨rfl, rfl⟩ := h₁
  have hS : (s.heap.push { cls := .type "list", data := .seq #[] }).get? s.heap.objs.size = some { cls := .type "list", data := .seq #[] } := Heap.get?_push_size _ rfl
  obtain ⟨ol, hol, _⟩ := id hl
  obtain ⟨oi, hoi, _⟩ := id hit
  refine ⟨⟨_, hS, rfl⟩, F.args_list_init_2 _ _, fill_rev (A := A.in1) hh (hit.at fun o e => Heap.get?_push_of_some _ e) (hl.push _) hne hn hS (Nat.ne_of_gt (Heap.lt_size hol)) (Nat.ne_of_gt (Heap.lt_size hoi)) fun h' tk acc c hk hS' hacc => ?_⟩
  exact ⟨rfl, hQ h' tk acc c (fun b o hb e => hk b o (Nat.ne_of_lt (Heap.lt_size e)) hb (Heap.get?_push_of_some _ e)) hS' hacc⟩
end
def tLRev (K : PySem.W.Frag) (te : TE) : TE := fun σ H Q => te σ H fun v H1 => ∃ (a : Addr) (xs : List V), v = .ref a ∧ SqL K H1 a xs ∧ ∀ p, H1 p = none → Q (.ref p) (upd H1 p (.lst xs.reverse))
section
variable {X : Cx} {E : XK} {e : Expr} {fe : Ev → Rs D}
theorem pe_lrev {te : TE} {p p2 pos pos2 : Pos} (hc : X.calm = true) (hg : Gl X "list") (hm : X.mg "list" = none) (hg2 : Gl X "reversed") (hm2 : X.mg "reversed" = none) (he : PE X e te)
    (hs : starEach [e] X.env = (false, eval e X.env) :: starEach [] X.env)
    (hs2 : starEach [.Call (.Name "reversed" p2) [e] [] pos2] X.env = (false, eval (.Call (.Name "reversed" p2) [e] [] pos2) X.env) :: starEach [] X.env) :
    PE X (.Call (.Name "list" p) [.Call (.Name "reversed" p2) [e] [] pos2] [] pos) (tLRev X.K te) := by
  refine ⟨fun pins s σ H Q I h => ?_⟩
  refine Call_ (ld_blt I hg hm boot_list (PyProof.Rows.callWith_type1 (args_cons (Call_ (ld_blt I hg2 hm2 PyProof.Rows.boot_reversed (PyProof.Rows.callWith_type1 (args_cons (thn (he.run pins s σ H _ I h) fun u s1 hh => args_nil ?_) hs) hs rfl))) hs2) hs2 rfl))
  obtain ⟨v, H1, I1, r1, a, xs, ev, hq, q⟩ := hh
  subst ev
  obtain rfl : u = Value.ref a := r1
  obtain ⟨its, rv, p', hz⟩ := I1.list hq
  refine call_reversed_list p'.isList (args_nil ?_)
  have I2 : Inv X pins σ H1 { s1 with heap := s1.heap.push (revObj a ((its.toArray.size : Int) - 1)) } := I1.kept (t' := s1.toks) fun b o e => Heap.get?_push_of_some _ e
  obtain ⟨f0, f1, f2, f3, f4, f5⟩ := I1.fpOk (H' := H1) (b := s1.heap.objs.size) (Nat.le_refl _) (I1.hok.fresh (Nat.le_refl _))
  have hl := p'.isList
  obtain ⟨ol, hol, _⟩ := id hl
  have hne : a ≠ s1.heap.objs.size := Nat.ne_of_lt (Heap.lt_size hol)
  have hn : its.toArray.size ≤ sizeLine := by rw [List.size_toArray, ← rv.length]; exact hz
  refine call_listRev (s := { s1 with heap := s1.heap.push (revObj a ((its.toArray.size : Int) - 1)) }) (I1.ok.hd hc) ⟨_, Heap.get?_push_size _ rfl, rfl, rfl⟩ (hl.push _) hne hn fun h' tk acc c hk hS hi => ?_
  generalize hp0 : (s1.heap.push (revObj a ((its.toArray.size : Int) - 1))) = hp at I2 hk hS ⊢
  have nP : H1 hp.objs.size = none := I2.hok.fresh (Nat.le_refl _)
  have neP : ∀ b o, hp.get? b = some o → b ≠ hp.objs.size := fun b o e => Nat.ne_of_lt (Heap.lt_size e)
  have neT : ∀ b u, H1 b = some u → b ≠ s1.heap.objs.size := fun b u e z => by rw [z, f0] at e; cases e
  have kU : ∀ b u, H1 b = some u → (upd H1 hp.objs.size (.lst xs.reverse)) b = some u := fun b u e => by rw [upd_ne (ne_of_none e nP)]; exact e
  have e2 : acc.toList = its.reverse := by
    apply List.ext_getElem?
    intro j
    by_cases hj : j < its.length
    · have hj2 : j < acc.size := by rw [hi.1, List.size_toArray]; exact hj
      have ej : acc[j]? = some acc[j] := by simp [hj2]
      have e2 : its.toArray[its.toArray.size - 1 - j]? = some acc[j] := hi.2 j _ ej
      rw [Array.getElem?_toList, ej, ← e2, List.getElem?_reverse hj]
      simp
    · rw [List.getElem?_eq_none (by rw [Array.length_toList, hi.1, List.size_toArray]; omega), List.getElem?_eq_none (by rw [List.length_reverse]; omega)]
  refine ⟨.ref hp.objs.size, upd H1 hp.objs.size (.lst xs.reverse), ?_, rfl, q _ nP⟩
  refine I2.step (g' := s1.gens) (d' := s1.drawn) (t' := tk) (ch := [s1.heap.objs.size]) (fun b hb => ?_) (fun b o _ _ hcb e _ => hk b o (fun z => hcb (by simp [z])) e) (fun b o _ _ hcb e _ => ⟨o.slots, hk b o (fun z => hcb (by simp [z])) e⟩)
    (fun b o _ e n => by rw [upd_ne (neP b o e)]; exact n) (fun b o hcb e => ⟨o, hk b o (fun z => hcb (by simp [z])) e⟩) (fun b xs e => kU b _ e) (fun b o u e => kU b _ e) (fun b ps e => ⟨#[], by rw [kU b _ e]; simp⟩) (fun m hm => ?_) (fun b u e => ?_) I2.bare
  · have e : b = s1.heap.objs.size := by simpa using hb
    subst e
    exact ⟨f3, f1, f4, f5⟩
  · obtain ⟨o, es, ep, ho, r⟩ := hm
    exact ⟨o, es, ep, hk _ o (Ne.symm f1) ho, r⟩
  · by_cases hb : b = hp.objs.size
    · subst hb
      rw [upd_same] at e
      cases e
      refine ⟨by rw [List.length_reverse]; exact hz, its.reverse, c, rv.reverse, ?_⟩
      rw [hS, ← e2, Array.toArray_toList]
    · rw [upd_ne hb] at e
      refine (I2.hok b u e).stay (fun d v hd q => hk d v ?_ q) (fun d q => kU d _ q) fun d xs q => kU d _ q
      rcases hd with z | z
      · rw [z]; exact neT b u e
      · exact neT d _ z
def opRev : D → Rs D
  | .list ds => .ok (.list ds.reverse)
  | _ => .bad
theorem so_lrev {p p2 pos pos2 : Pos} (hc : X.calm = true) (hm : X.mg "list" = none) (hm2 : X.mg "reversed" = none) (he : SE X E e fe) (hg : Gl X "list" := by rfl) (hg2 : Gl X "reversed" := by rfl)
    (hs : starEach [e] X.env = (false, eval e X.env) :: starEach [] X.env := by rfl)
    (hs2 : starEach [.Call (.Name "reversed" p2) [e] [] pos2] X.env = (false, eval (.Call (.Name "reversed" p2) [e] [] pos2) X.env) :: starEach [] X.env := by rfl) :
    SO X E (.Call (.Name "list" p) [.Call (.Name "reversed" p2) [e] [] pos2] [] pos) (e1 opRev fe) := by
  refine PE.weak (pe_lrev hc hg hm hg2 hm2 he hs hs2) fun σ H Q q => ?_
  refine one (P := fun H0 H r => PostO (zOf X E) H0 H r Q) q (fun _ _ _ _ _ x p => p.step x) (fun _ _ _ p => p) (fun _ _ p => p) fun H0 H x a s r p => ?_
  cases a <;> first | exact p.elim | skip
  case list ds =>
    obtain ⟨a, vs, rfl, h1, h2⟩ := r
    exact ⟨a, vs, rfl, s.seq h1, fun t nt => p t _ _ (Ex2.out s nt _) nt (s.free nt) (.inl ⟨_, _, rfl, upd_same, h2.reverse⟩)⟩
end
end Sk

namespace Sk
open PySem PySem.Spec PyProof.Rows L2
def mkL (ds : List D) : Rs D := if ds.length ≤ 1000 then .ok (.list ds) else .bad
def mkT (ds : List D) : Rs D := if ds.length ≤ 1000 then .ok (.tuple ds) else .bad
def opNeg : D → Rs D
  | .int i => .ok (.int (-i))
  | _ => .bad
def opPow : D → D → Rs D
  | .int i, .int j => if 0 ≤ j ∧ j ≤ 1000000 ∧ i.natAbs < 2 ^ 64 then .ok (.int (i ^ j.toNat)) else .bad
  | _, _ => .bad
def mulC (z : Str) (i : Int) : Bool := decide (-1000 ≤ i ∧ i ≤ 100000 ∧ z.length ≤ 100000 ∧ z.length * i.toNat ≤ 100000)
def opRep : D → D → Rs D
  | .str z, .int i => if mulC z i = true then .ok (.str (Txt.mul z i)) else .bad
  | _, _ => .bad
def opSlT : D → Option Int → Option Int → Rs D
  | .tuple ds, lo, hi => .ok (.tuple (cutD ds lo hi))
  | _, _, _ => .bad
def joinO (z : Str) (ds : List D) : Rs D := match strsOf ds with
  | some ys => if (ys.map (·.length)).sum + ys.length * z.length ≤ 100000 then .ok (.str (Txt.join z ys)) else .bad
  | none => .bad
def opJoin (z : Str) : List D → Rs D
  | [.list ds] => joinO z ds
  | _ => .bad
def opRepl (x : Str) : List D → Rs D
  | [.str y, .str z] => if (y == z) = false ∧ 0 < y.length ∧ 0 < z.length ∧ x.length + (x.length + 1) * z.length ≤ 100000 then .ok (.str (Txt.replace x y z)) else .bad
  | _ => .bad
def strB {α : Type} (d : D) (k : Str → Rs α) : Rs α := match d with
  | .str z => k z
  | _ => .bad
def eMet (op : Str → List D → Rs D) (fo : Ev → Rs D) (fr : Ev → Rs (List D)) : Ev → Rs D := fun ev => (fo ev).bind fun a => strB a fun z => (fr ev).bind fun r => op z r
abbrev eJoin := eMet opJoin
abbrev eRepl := eMet opRepl
theorem ne_opLt : ∀ a b x, opLt a b ≠ .exc x := by intro a b x; cases a <;> cases b <;> (intro h; cases h)
theorem ne_opLe : ∀ a b x, opLe a b ≠ .exc x := by intro a b x; cases a <;> cases b <;> (intro h; cases h)
theorem ne_gS1 {i : Nat} : ∀ d e x, gS1 i d e ≠ .exc x := by intro d e x h; cases h
theorem ne_gS2 {i j : Nat} : ∀ d e x, gS2 i j d e ≠ .exc x := by
  intro d e x h
  unfold gS2 at h
  split at h <;> cases h
section
variable {X : Cx} {E : XK} {a b c e : Expr} {fa fb fc fe : Ev → Rs D} {pos p p2 : Pos}
theorem se_neg (h : SE X E a fa) : SE X E (.UnaryOp .USub a pos) (e1 opNeg fa) := by
  refine PE.weak (pe_un un_neg h) fun σ H Q q => ?_
  refine one (P := fun H0 H r => PostE (zOf X E) H0 H r Q) q (fun _ _ _ _ _ x p => p.step x) (fun _ _ _ p => p) (fun _ _ p => p) fun H0 H x a s r p => ?_
  cases a <;> first | exact p.elim | skip
  case int i => exact ⟨i, r, PostE.now (d := .int (-i)) s p rfl⟩
theorem os_pow : OpS (zOf X E) (rI CPow fun i j => .int (i ^ j.toNat)) opPow := by
  intro H0 H x y a b Q s ra rb p
  cases a <;> cases b <;> first | exact p.elim | skip
  case int.int i j =>
    simp only [opPow] at p
    by_cases c : 0 ≤ j ∧ j ≤ 1000000 ∧ i.natAbs < 2 ^ 64
    · rw [if_pos c] at p
      exact ⟨i, j, ra, rb, c, PostE.now (d := .int (i ^ j.toNat)) s p rfl⟩
    · rw [if_neg c] at p; exact p.elim
abbrev rRepS : R2 := fun x y H Q => ∃ z i, x = .str z ∧ y = .int i ∧ mulC z i = true ∧ Q (.str (Txt.mul z i)) H
theorem ox_rep : OpR X (binaryOp .Mult) rRepS := by
  intro pins s σ H x y v u Q I rx ry h
  obtain ⟨z, i, rfl, rfl, hc, q⟩ := h
  obtain ⟨t, rfl⟩ := rx
  obtain ⟨t', rfl⟩ := ry
  have hc := of_decide_eq_true hc
  obtain ⟨h1, h2, h3, h4⟩ := hc
  refine PySem.SB.mul ⟨?_, fun h5 h6 => ?_, fun h5 h6 => ?_⟩ fun t' k => ⟨.str _, H, I.tok k, ⟨t', rfl⟩, q⟩
  · rw [decide_eq_false (by omega), decide_eq_false (by omega)]; rfl
  · have : (100000 : Int) ≤ (2 ^ 63 - 1) / i := by
      rw [Int.le_ediv_iff_mul_le (by omega)]
      omega
    omega
  · unfold Builtin.Str.tooLong
    have h7 : z.length * i.toNat ≤ sizeLine := sz5 h4
    simp only [decide_eq_false_iff_not]
    omega
theorem os_rep : OpS (zOf X E) rRepS opRep := by
  intro H0 H x y a b Q s ra rb p
  cases a <;> cases b <;> first | exact p.elim | skip
  case str.int z i =>
    simp only [opRep] at p
    by_cases c : mulC z i = true
    · rw [if_pos c] at p
      exact ⟨z, i, ra, rb, c, PostE.now (d := .str _) s p rfl⟩
    · rw [if_neg c] at p; exact p.elim
theorem se_chain {op op' : CmpOp} {r r' : R2} {o o' : D → D → Rs D} (h : OpR X (compareOp op) r) (k : OpS (zOf X E) r o) (h' : OpR X (compareOp op') r') (k' : OpS (zOf X E) r' o') (ne : ∀ a b x, o a b ≠ .exc x)
    (ha : SE X E a fa) (hb : SE X E b fb) (hc : SE X E c fc) (hm : lastMarks [op, op'] [b, c] = false := by with_unfolding_all rfl) : SE X E (.Compare a [op, op'] [b, c] pos) (eCh o o' fa fb fc) :=
  PE.weak (pe_chain h h' ha hb hc hm) fun _ _ _ q => chain_of k k' ne q
theorem sb_chain {op op' : CmpOp} {r r' : R2} {o o' : D → D → Rs D} (h : OpR X (compareOp op) r) (k : OpS (zOf X E) r o) (h' : OpR X (compareOp op') r') (k' : OpS (zOf X E) r' o') (ne : ∀ a b x, o a b ≠ .exc x)
    (ha : SE X E a fa) (hb : SE X E b fb) (hc : SE X E c fc) (hm : lastMarks [op, op'] [b, c] = false := by with_unfolding_all rfl) : SB X E (.Compare a [op, op'] [b, c] pos) (bE (eCh o o' fa fb fc)) :=
  PT.weak (pt_chain h h' ha hb hc hm) fun _ _ _ q => chain_of k k' ne (tB_of q)
theorem se_slT {lo hi : Option Expr} {fl fh : Ev → Rs (Option Int)} (he : SE X E e fe) (hl : PO X lo (pO (zOf X E) fl)) (hh : PO X hi (pO (zOf X E) fh)) : SE X E (.Subscript e (.Slice lo hi none p2) pos) (eSl opSlT fe fl fh) := by
  refine PE.weak (pe_slice sl_tupA he hl hh) fun σ H Q q => ?_
  refine sl_of (P := fun H0 H r => PostE (zOf X E) H0 H r Q) q (fun _ _ _ _ _ x p => p.step x) (fun _ _ _ p => p) (fun _ _ p => p) fun H0 H x a lo hi s ra p => ?_
  cases a <;> first | exact p.elim | skip
  case tuple ds =>
    obtain ⟨l, vs, rfl, h1, h2⟩ := ra
    refine ⟨l, vs, rfl, sqt_same s h1, fun hw => ?_, fun _ t nt => ?_⟩
    · refine PostE.now s p ⟨l, vs, rfl, h1, ?_⟩
      unfold cutD
      rw [← h2.length, hw.1, hw.2, List.drop_zero, Nat.sub_zero, List.take_of_length_le (by rw [h2.length]; exact Nat.le_refl _)]
      exact h2
    · refine p (.ref t) _ _ (Ex2.new s nt _) ⟨t, _, rfl, SqT.of upd_same, RpL.mono (same_new (s.free nt) _) ?_⟩
      unfold cutD cutV
      rw [← h2.length]
      exact (h2.drop _).take _
theorem se_join {o : Expr} {fo : Ev → Rs D} {apos : Pos} (ho : SE X E o fo) (he' : SE X E e fe) (hs : starEach [e] X.env = [(false, eval e X.env)] := by rfl) (hbase : attributeBase o "join" X.env (eval o X.env) = eval o X.env := by rfl) (hline : (apos.endLine == pos.line) = true := by rfl) :
    SE X E (.Call (.Attribute o "join" apos) [e] [] pos) (eJoin fo (aC fe aN)) := by
  refine PE.weak (pe_join ho he' hs hbase hline) fun σ H Q q => ?_
  obtain ⟨H0, ev, s, rv, p⟩ := q
  refine ⟨H0, ev, s, rv, ?_⟩
  unfold eJoin eMet at p
  cases ea : fo ev with
  | bad => rw [ea] at p; exact p
  | exc x => rw [ea] at p; exact p
  | ok d =>
    rw [ea] at p
    intro v H1 H' x1 r1
    replace p := p.step x1
    simp only [Rs.ok_bind, aC, aN, strB] at p
    cases d with
    | str z =>
      refine ⟨⟨z, r1⟩, H1, ev, x1.c, rv.mono x1.a, ?_⟩
      cases eb : fe ev with
      | bad => rw [eb] at p; exact p
      | exc x => rw [eb] at p; exact p
      | ok b =>
        rw [eb] at p
        intro u H2 H'' x2 r2
        replace p := p.step x2
        simp only [Rs.ok_bind] at p
        cases b with
        | list ds =>
          simp only [opJoin, joinO] at p
          cases es : strsOf ds with
          | none => rw [es] at p; exact p.elim
          | some ys =>
            rw [es] at p
            simp only at p
            by_cases c : (ys.map (·.length)).sum + ys.length * z.length ≤ 100000
            · rw [if_pos c] at p
              have e9 := strsOf_some es
              subst e9
              obtain ⟨l, vs, rfl, h1, h2⟩ := r2
              have ev9 := h2.strs
              subst ev9
              exact ⟨z, l, ys, r1, rfl, .inl (x2.c.seq h1), Nat.le_trans c (by decide), PostE.now (d := .str _) x2.c p rfl⟩
            · rw [if_neg c] at p; exact p.elim
        | _ => exact p.elim
    | _ => exact p.elim
end
theorem CX_false {P : Program} {w : World} {o : List Env} {H : Hp} {s s' : Shared} {e : Value} (h : L2.CX P w o H s (fun _ _ _ => False) e s') : False := by
  obtain ⟨_, _, _, _, _, _, _, _, _, _, _, _, h⟩ := h
  exact h
end Sk

namespace Sk
open PySem PySem.Spec PyProof.Rows L2
/-! ### lists of lists that this def alone holds -/
def innerOf : List D → Option (List (List D))
  | [] => some []
  | .list ds :: r => (innerOf r).map (ds :: ·)
  | _ :: _ => none
theorem innerOf_some : ∀ {ds : List D} {dss : List (List D)}, innerOf ds = some dss → ds = dss.map .list
  | [], dss, h => by simp [innerOf] at h; subst h; rfl
  | d :: r, dss, h => by
    cases d <;> simp [innerOf] at h
    obtain ⟨ms, e, rfl⟩ := h
    rw [innerOf_some e]; rfl
theorem innerOf_map : ∀ dss : List (List D), innerOf (dss.map .list) = some dss
  | [] => rfl
  | ds :: r => by simp [innerOf, innerOf_map r]
def onB {α : Type} (d : D) (k : List (List D) → Rs α) : Rs α := match d with
  | .list ds => (match innerOf ds with
    | some dss => k dss
    | none => .bad)
  | _ => .bad
theorem onB_on {α : Type} (dss : List (List D)) (k : List (List D) → Rs α) : onB (onD dss) k = k dss := by unfold onB onD; simp [innerOf_map]
theorem onB_inv {α : Type} {d : D} {k : List (List D) → Rs α} {r : Rs α} (h : onB d k = r) (hr : r ≠ .bad) : ∃ dss, d = onD dss ∧ k dss = r := by
  unfold onB at h
  split at h
  · rename_i ds
    cases e : innerOf ds with
    | none => rw [e] at h; exact absurd h.symm hr
    | some dss =>
      rw [e] at h
      exact ⟨dss, by rw [innerOf_some e]; rfl, h⟩
  · exact absurd h.symm hr
/-- several new lists -/
def PostAN (Z : Wh) (H0 H : Hp) (r : Rs (List D)) (Q : List V → Hp → Prop) : Prop := match r with
  | .ok ds => ∃ dss, ds = dss.map .list ∧ ∀ ps H0' H', Ex2 H0 H H0' H' → (∀ q ∈ ps, H q = none ∧ H0' q = none) → ps.Nodup → NsL Z.K H0' H' dss ps → Q (ps.map V.ref) H'
  | .exc x => ∀ H', Same H H' → EX Z.mg Z.E x H'
  | .bad => False
theorem PostAN.step {Z : Wh} {H0 H H0' H' : Hp} {r : Rs (List D)} {Q : List V → Hp → Prop} (x : Ex2 H0 H H0' H') (h : PostAN Z H0 H r Q) : PostAN Z H0' H' r Q := by
  cases r with
  | ok d =>
    obtain ⟨dss, e, h⟩ := h
    exact ⟨dss, e, fun ps A B y n nd q => h ps A B (x.trans y) (fun b hb => ⟨x.b.free (n b hb).1, (n b hb).2⟩) nd q⟩
  | exc e => exact fun B y => h B (x.b.trans y)
  | bad => exact h
def tAN (Z : Wh) (fe : Ev → Rs (List D)) : TA := fun σ H Q => ∃ H0 ev, Same H0 H ∧ RpV Z.K H0 σ ev ∧ PostAN Z H0 H (fe ev) Q
abbrev SAN (X : Cx) (E : XK) (es : List Expr) (fe : Ev → Rs (List D)) : Prop := PA X es (tAN (zOf X E) fe)
section
variable {X : Cx} {E : XK} {e : Expr} {es : List Expr} {fe : Ev → Rs D} {fr : Ev → Rs (List D)} {pos : Pos}
theorem san_nil : SAN X E [] aN := PA.weak pa_nil fun σ H Q ⟨H0, ev, s, rv, p⟩ => by
  obtain ⟨dss, e, p⟩ := p
  have : dss = [] := by cases dss <;> simp at e ⊢
  subst this
  exact p [] H0 H (Ex2.refl s) (fun q hq => nomatch hq) List.nodup_nil rfl
theorem san_cons (ha : SO X E e fe) (hr : SAN X E es fr) (hs : starEach (e :: es) X.env = (false, eval e X.env) :: starEach es X.env := by rfl) : SAN X E (e :: es) (aC fe fr) := by
  refine PA.weak (pa_cons ha hr hs) fun σ H Q ⟨H0, ev, s, rv, p⟩ => ?_
  refine ⟨H0, ev, s, rv, ?_⟩
  unfold aC at p
  cases ea : fe ev with
  | bad => rw [ea] at p; exact p
  | exc x => rw [ea] at p; exact p
  | ok d =>
    rw [ea] at p
    intro a H1 H' x1 n1 n2 o1
    refine ⟨H1, ev, x1.c, rv.mono x1.a, ?_⟩
    simp only [Rs.ok_bind] at p
    cases eb : fr ev with
    | bad => rw [eb] at p; exact p
    | exc x => rw [eb] at p; exact fun B y => p B (x1.b.trans y)
    | ok ds =>
      rw [eb] at p
      obtain ⟨dss, e1, p⟩ := p
      cases dss with
      | nil => cases e1
      | cons d0 dss =>
        rw [List.map_cons] at e1
        injection e1 with e1 e2
        subst e1 e2
        rcases o1 with ⟨es', vs, e3, h1, h2⟩ | ⟨ps, e3, _⟩
        · cases e3
          refine ⟨dss, rfl, fun qs H0' H'' y nq nd it => ?_⟩
          have na : a ∉ qs := fun hm => by
            have := (nq a hm).1
            rw [h1] at this; cases this
          refine p (a :: qs) H0' H'' (x1.trans y) (fun q hq => ?_) (List.nodup_cons.mpr ⟨na, nd⟩) ⟨a, qs, rfl, ⟨vs, y.b _ _ h1, h2.mono y.a⟩, it⟩
          rcases List.mem_cons.mp hq with rfl | hq
          · exact ⟨n1, (y.d q _ h1).trans n2⟩
          · exact ⟨x1.b.free (nq q hq).1, (nq q hq).2⟩
        · cases e3
/-- a list of new lists -/
theorem sn_lst (h : SAN X E es fr) : SN X E (.List es pos) (eA mkL fr) := by
  refine PE.weak (pe_lst h) fun σ H Q ⟨H0, ev, s, rv, p⟩ => ?_
  refine ⟨H0, ev, s, rv, ?_⟩
  unfold eA at p
  cases ea : fr ev with
  | bad => rw [ea] at p; exact p
  | exc x => rw [ea] at p; exact p
  | ok ds =>
    rw [ea] at p
    simp only [Rs.ok_bind, mkL] at p
    by_cases hl : ds.length ≤ 1000
    · rw [if_pos hl] at p
      obtain ⟨dss, e1, p⟩ := p
      have e2 : ds = dss.map .list := by injection e1
      refine ⟨dss, e2, fun ps H0' H' y n nd it => ?_⟩
      refine ⟨by rw [List.length_map, it.len, ← List.length_map (f := PyData.list), ← e2]; exact Nat.le_of_lt (small1000 hl), fun t nt => ?_⟩
      have nm : t ∉ ps := fun hm => by
        obtain ⟨vs, hv⟩ := it.mem t hm
        rw [nt] at hv; cases hv
      refine p t ps H0' (upd H' t (.lst (ps.map V.ref))) ⟨y.a, y.b.trans (same_new nt _), y.c.trans (same_new nt _), y.d⟩ (fun q hq => ?_) ⟨upd_same, List.nodup_cons.mpr ⟨nm, nd⟩, it.stay fun q hq => upd_ne fun z => nm (z ▸ hq)⟩
      rcases List.mem_cons.mp hq with rfl | hq
      · exact ⟨y.b.free nt, y.c.free nt⟩
      · exact n q hq
    · rw [if_neg hl] at p; exact p.elim
end
/-! ### statements -/
def sNn (i : Nat) (fe : Ev → Rs D) : SEnv → Rs Fl := fun env => (fe (hidV env)).bind fun d => onB d fun dss => .ok (.nx (env.set i (.on dss)))
def owN {α : Type} (o : Option Sl) (k : List (List D) → Rs α) : Rs α := match o with
  | some (.on dss) => k dss
  | _ => .bad
section
variable {X : Cx} {E : XK} {om : Om} {st : Stmt} {e : Expr} {fe : Ev → Rs D} {pos : Pos}
theorem ss_nn {i : Nat} (h : PS X st (tAsg (tN (zOf X E) fe) (gName i))) : SS X E om st (sNn i fe) := by
  refine PS.weak h fun Dn σ H ⟨B0, B, H0, env, S, p⟩ => ?_
  refine ⟨H0, hidV env, S.same, S.hid, ?_⟩
  unfold sNn at p
  cases ef : fe (hidV env) with
  | bad => rw [ef] at p; exact p
  | exc x => rw [ef] at p; exact p.excs S.x.b
  | ok d =>
    rw [ef] at p
    simp only [Rs.ok_bind] at p
    cases eo : onB d (fun dss => (Rs.ok (Fl.nx (env.set i (.on dss))) : Rs Fl)) with
    | bad => rw [eo] at p; exact p.elim
    | exc x =>
      obtain ⟨dss, _, e2⟩ := onB_inv eo (fun z => by cases z)
      cases e2
    | ok f =>
      obtain ⟨dss, e1, e2⟩ := onB_inv eo (fun z => by cases z)
      cases e2
      rw [eo] at p
      exact ⟨dss, e1, fun q qs H0' H' y n r => p _ H0' H' (S.set_on y i n r)⟩
theorem ss_rtN (he : SN X E e fe) : SS X E .n (.Return (some e) pos) (sRt fe) := by
  refine PS.weak (ps_ret he) fun Dn σ H ⟨B0, B, H0, env, S, p⟩ => ?_
  refine ⟨bor H0 H σ env, allV env, S.bor_s, S.allv, ?_⟩
  unfold sRt at p
  cases ef : fe (allV env) with
  | bad => rw [ef] at p; exact p
  | exc x => rw [ef] at p; exact p.excs S.x.b
  | ok d =>
    rw [ef] at p
    obtain ⟨dss, e1, p⟩ := p
    exact ⟨dss, e1, fun q qs H0' H' y n r => p q qs H0' H' (S.frzAll.x.trans y) (fun b hb => ⟨S.x.b.free (n b hb).1, (n b hb).2⟩) r⟩
end
/-! ### an inner list changes -/
theorem Stt.nmut {K : PySem.W.Frag} {B0 B H0 H : Hp} {σ : L2.St} {env : SEnv} (S : Stt K B0 B H0 H σ env) {k n : Nat} {dss : List (List D)} {p q : Addr} {ps : List Addr} {ds' : List D} {vs' : List V} (hi : env[k]? = some (.on dss)) (hp : σ[k]? = some (some (.ref p)))
    (o : OwN K H0 H dss p ps) (hq : ps[n]? = some q) (r : RpL K H0 ds' vs') : Stt K B0 B H0 (upd H q (.lst vs')) σ (env.set k (.on (dss.set n ds'))) := by
  have mq := List.mem_of_getElem? hq
  have ft : Ft H (.on dss) σ[k]? q := ⟨p, ps, hp, o.o, List.mem_cons_of_mem _ mq⟩
  have pq : p ≠ q := fun z => by subst z; exact (List.nodup_cons.mp o.nd).1 mq
  have o' : OwN K H0 (upd H q (.lst vs')) (dss.set n ds') p ps := ⟨by rw [upd_ne pq]; exact o.o, o.nd, o.it.set (List.nodup_cons.mp o.nd).2 hq r⟩
  obtain ⟨p1, ps1, g1, g2, g3⟩ := S.on k dss hi
  rw [hp] at g1
  cases g1
  have e4 := g2.o.symm.trans o.o
  injection e4 with e4
  injection e4 with e4
  have := refs_inj e4
  subst this
  refine S.change hi ft (fun _ z => Sl.noConfusion z) (fun _ z => Sl.noConfusion z) (fun e he => ?_) fun b hb => ?_
  · injection he with he
    subst he
    exact ⟨p, ps1, hp, o', g3⟩
  · obtain ⟨p2, ps2, f1, f2, f3⟩ := hb
    rw [hp] at f1
    cases f1
    rw [upd_ne pq] at f2
    exact ⟨p, ps2, hp, f2, f3⟩
theorem Stt.onK {K : PySem.W.Frag} {B0 B H0 H : Hp} {σ : L2.St} {env : SEnv} (S : Stt K B0 B H0 H σ env) {k : Nat} {dss : List (List D)} {p : Addr} (hi : env[k]? = some (.on dss)) (hp : σ[k]? = some (some (.ref p))) : ∃ ps, OwN K H0 H dss p ps := by
  obtain ⟨p1, ps1, g1, g2, g3⟩ := S.on k dss hi
  rw [hp] at g1
  cases g1
  exact ⟨ps1, g2⟩
def sNap (k : Nat) (fi fe : Ev → Rs D) : SEnv → Rs Fl := fun env => owN env[k]? fun dss => (fi (hidV env)).bind fun ix => intB ix fun j => match ixN dss.length j with
  | some n => (fe (hidV env)).bind fun d => if (dss.getD n []).length ≤ 100000 then .ok (.nx (env.set k (.on (dss.set n (dss.getD n [] ++ [d]))))) else .bad
  | none => .bad
section
variable {X : Cx} {E : XK} {om : Om} {o i e : Expr} {fi fe : Ev → Rs D} {pos spos apos cpos : Pos} {k : Nat}
theorem ss_nap (hv : PE X o (tVar k)) (hi : SE X E i fi) (he : SE X E e fe) (hpl : PlainIx i)
    (hbase : attributeBase (.Subscript o i spos) "append" X.env (eval (.Subscript o i spos) X.env) = eval (.Subscript o i spos) X.env := by rfl)
    (hfew : ((backTo cpos (starEach [e] X.env)).all (fun x => !x.1) && (backToKw cpos (keywordEach [] X.env)).all (fun x => x.1.isSome)
      && decide (([e] : List Expr).length + ([] : List Keyword).length + (if ([] : List Keyword).isEmpty then 0 else 1) < 30)) = true := by rfl)
    (hline : (apos.endLine == cpos.line) = true := by rfl) (hs : starEach [e] X.env = (false, eval e X.env) :: starEach [] X.env := by rfl) (hplain : (backTo cpos (starEach [] X.env)).any (·.1) = false := by rfl)
    (hsw : swapsWith (.Call (.Attribute (.Subscript o i spos) "append" apos) [e] [] cpos) none pos.line X.env = pure false := by rfl) :
    SS X E om (.Expr (.Call (.Attribute (.Subscript o i spos) "append" apos) [e] [] cpos) pos) (sNap k fi fe) := by
  refine PS.weak (ps_expr (pe_bm PySem.F.plainAttrs_list PySem.F.slot_list_append PySem.F.type_list_append mt_append (pe_ix ix_seq hv hi hpl) (pa_cons he pa_nil hs) hbase hfew hline hs hplain) hsw) fun Dn σ H ⟨B0, B, H0, env, S, p⟩ => ?_
  unfold sNap owN at p
  split at p
  · rename_i dss hd
    obtain ⟨a, ps0, h1, _, _⟩ := S.on k _ hd
    refine ⟨.ref a, h1, H0, hidV env, S.same, S.hid, ?_⟩
    cases ei : fi (hidV env) with
    | bad => rw [ei] at p; exact p
    | exc x => rw [ei] at p; exact p.excs S.x.b
    | ok ix =>
      rw [ei] at p
      intro w H2 H3 y2 r2
      cases ix with
      | int j =>
        simp only [Rs.ok_bind, intB] at p
        cases en : ixN dss.length j with
        | none => rw [en] at p; exact p.elim
        | some n =>
          rw [en] at p
          simp only at p
          have S1 := S.grow y2
          obtain ⟨ps, o1⟩ := S1.onK hd h1
          have hn : n < dss.length := by
            unfold ixN at en
            split at en
            · split at en
              · cases en; omega
              · cases en
            · split at en
              · cases en; omega
              · cases en
          obtain ⟨q, vs, hq, hqv, hr⟩ := o1.it.get (List.getElem?_eq_getElem hn)
          have hlen : ps.length = dss.length := o1.it.len
          have at1 : atI (ps.map V.ref) j = some (.ref q) := by
            unfold atI
            rw [List.length_map, hlen, en]
            simp [hq]
          refine .inl ⟨a, ps.map V.ref, j, .ref q, rfl, r2, SqL.of o1.o, at1, ?_⟩
          refine ⟨.inl ⟨rfl, vs, SqL.of hqv⟩, H2, hidV env, S1.same, S1.hid, ?_⟩
          cases ef : fe (hidV env) with
          | bad => rw [ef] at p; exact p
          | exc x => rw [ef] at p; exact p.excs S1.x.b
          | ok d =>
            rw [ef] at p
            intro v H0' H' y r
            have S2 := S1.grow y
            have gd : dss.getD n [] = dss[n] := by simp [hn]
            by_cases c : (dss.getD n []).length ≤ 100000
            · simp only [Rs.ok_bind, if_pos c] at p
              rw [gd] at c p
              refine ⟨q, vs, v, rfl, rfl, y.b _ _ hqv, by rw [hr.length]; exact Nat.lt_of_le_of_lt c (by decide), ?_⟩
              exact p _ H0' _ (S2.nmut hd h1 (o1.mono y.a y.b) hq ((hr.mono y.a).append (.cons r .nil)))
            · simp only [Rs.ok_bind, if_neg c] at p
              exact p.elim
      | _ => exact p.elim
  · exact p.elim
/-- x[i][j] = e -/
def sNit (k : Nat) (fi fj fe : Ev → Rs D) : SEnv → Rs Fl := fun env => owN env[k]? fun dss => (fe (allV env)).bind fun d => if flat d = true then (fi (hidV env)).bind fun ix => intB ix fun a => match ixN dss.length a with
  | some n => (fj (hidV env)).bind fun jx => intB jx fun b => (match ixN (dss.getD n []).length b with
    | some l => .ok (.nx (env.set k (.on (dss.set n ((dss.getD n []).set l d)))))
    | none => .bad)
  | none => .bad else .bad
theorem ixN_lt {m : Nat} {j : Int} {n : Nat} (en : ixN m j = some n) : n < m := by
  unfold ixN at en
  split at en
  · split at en
    · cases en; omega
    · cases en
  · split at en
    · cases en; omega
    · cases en
theorem ss_nit {j : Expr} {fj : Ev → Rs D} {tpos : Pos} (hv : PE X o (tVar k)) (hi : SE X E i fi) (hj : SE X E j fj) (he : SE X E e fe) (hpl : PlainIx i) (ha : ∀ v, assign (.Subscript (.Subscript o i spos) j tpos) X.env v = (do
      let ov ← holding [v] (eval (.Subscript o i spos) X.env)
      let iv ← holding [v, ov] (eval j X.env)
      standAt tpos
      holding [v, ov, iv] (setItem ov iv v)
      release [v, ov, iv] []) := by intro _; rfl)
    (hs : swapsWithSole [.Subscript (.Subscript o i spos) j tpos] e pos.line X.env = pure false := by rfl) (hw : swappedStores [.Subscript (.Subscript o i spos) j tpos] e X.env = pure none := by rfl)
    (h1 : (assignEach [.Subscript (.Subscript o i spos) j tpos] X.env).map (·.2) = [assign (.Subscript (.Subscript o i spos) j tpos) X.env] := by rfl) :
    SS X E om (.Assign [.Subscript (.Subscript o i spos) j tpos] e pos) (sNit k fi fj fe) := by
  refine PS.weak (ps_asg he (pg_sub (pe_ix ix_seq hv hi hpl) hj set_list ha) hs hw h1) fun Dn σ H ⟨B0, B, H0, env, S, p⟩ => ?_
  unfold sNit owN at p
  split at p
  · rename_i dss hd
    refine ⟨bor H0 H σ env, allV env, S.bor_s, S.allv, ?_⟩
    cases ef : fe (allV env) with
    | bad => rw [ef] at p; exact p
    | exc x => rw [ef] at p; exact p.excs S.x.b
    | ok d =>
      rw [ef] at p
      intro v Hb H' y r
      obtain ⟨y', hf⟩ := S.back y
      by_cases c : flat d = true
      · simp only [Rs.ok_bind, if_pos c] at p
        have S1 := S.grow y'
        have rd := Rp.flat_of hf c r
        obtain ⟨a, ps0, g1, _, _⟩ := S1.on k _ hd
        refine ⟨.ref a, g1, _, hidV env, S1.same, S1.hid, ?_⟩
        cases ei : fi (hidV env) with
        | bad => rw [ei] at p; exact p
        | exc x => rw [ei] at p; exact p.excs S1.x.b
        | ok ix =>
          rw [ei] at p
          intro w H2 H3 y2 r2
          cases ix with
          | int b =>
            simp only [Rs.ok_bind, intB] at p
            cases en : ixN dss.length b with
            | none => rw [en] at p; exact p.elim
            | some n =>
              rw [en] at p
              simp only at p
              have S2 := S1.grow y2
              obtain ⟨ps, o1⟩ := S2.onK hd g1
              have hn := ixN_lt en
              obtain ⟨q, vs, hq, hqv, hr⟩ := o1.it.get (List.getElem?_eq_getElem hn)
              have hlen : ps.length = dss.length := o1.it.len
              have at1 : atI (ps.map V.ref) b = some (.ref q) := by
                unfold atI
                rw [List.length_map, hlen, en]
                simp [hq]
              refine .inl ⟨a, ps.map V.ref, b, .ref q, rfl, r2, SqL.of o1.o, at1, ?_⟩
              refine ⟨_, hidV env, S2.same, S2.hid, ?_⟩
              have gd : dss.getD n [] = dss[n] := by simp [hn]
              cases ej : fj (hidV env) with
              | bad => rw [ej] at p; exact p
              | exc x => rw [ej] at p; exact p.excs S2.x.b
              | ok jx =>
                rw [ej] at p
                intro w2 H4 H5 y3 r3
                cases jx with
                | int b2 =>
                  simp only [Rs.ok_bind, intB] at p
                  cases el : ixN (dss.getD n []).length b2 with
                  | none => rw [el] at p; exact p.elim
                  | some l =>
                    rw [el] at p
                    rw [gd] at el p
                    have S3 := S2.grow y3
                    refine ⟨q, vs, b2, l, rfl, r3, y3.b _ _ hqv, by rw [hr.length]; exact el, ?_⟩
                    exact p σ H4 _ (S3.nmut hd g1 (o1.mono y3.a y3.b) hq ((hr.mono y3.a).set l (rd.mono (y2.a.trans y3.a))))
                | _ => exact p.elim
          | _ => exact p.elim
      · simp only [Rs.ok_bind, if_neg c] at p
        exact p.elim
  · exact p.elim
end
end Sk

namespace Sk
open PySem PySem.Spec PyProof.Rows L2
/-! ### more of lists of new lists -/
section
variable {K : PySem.W.Frag} {H0 H H0' H' : Hp}
theorem NsL.app : ∀ {as bs : List (List D)} {ps qs : List Addr}, NsL K H0 H as ps → NsL K H0 H bs qs → NsL K H0 H (as ++ bs) (ps ++ qs)
  | [], bs, ps, qs, h, t => by
    have h : ps = [] := h
    subst h; exact t
  | x :: r, bs, ps, qs, h, t => by
    obtain ⟨q, s, rfl, h1, h3⟩ := h
    exact ⟨q, s ++ qs, rfl, h1, NsL.app h3 t⟩
end
/-- a new list of new lists, read -/
def eN (fe : Ev → Rs D) : Ev → Rs D := fun ev => (fe ev).bind fun d => onB d fun _ => .ok d
theorem OwN.give {K : PySem.W.Frag} {H0 H B0 B : Hp} {dss : List (List D)} : ∀ (ps : List Addr), (∀ q ∈ ps, H q = none ∧ H0 q = none) → ∀ {H0' H' : Hp}, Ex2 H0 H H0' H' → (∀ q ∈ ps, H0' q = none ∧ ∃ o, H' q = some o) → ∃ H0'', Ex2 H0 H H0'' H' ∧ Same H0' H0'' ∧ ∀ q ∈ ps, H0'' q = H' q
  | [], _, H0', H', y, _ => ⟨H0', y, Same.refl _, fun q hq => nomatch hq⟩
  | q :: ps, n, H0', H', y, f => by
    obtain ⟨G, y2, s2, k⟩ := OwN.give (B0 := B0) (B := B) (K := K) (dss := dss) ps (fun r hr => n r (List.mem_cons_of_mem _ hr)) y fun r hr => f r (List.mem_cons_of_mem _ hr)
    obtain ⟨o, ho⟩ := (f q List.mem_cons_self).2
    cases e : G q with
    | some u =>
      refine ⟨G, y2, s2, fun r hr => ?_⟩
      rcases List.mem_cons.mp hr with rfl | hr
      · rw [e, y2.c _ _ e]
      · exact k r hr
    | none =>
      refine ⟨upd G q o, y2.add (n q List.mem_cons_self).1 e ho, s2.trans (same_new e o), fun r hr => ?_⟩
      by_cases c : r = q
      · subst c; rw [upd_same, ho]
      · rw [upd_ne c]
        rcases List.mem_cons.mp hr with rfl | hr
        · exact absurd rfl c
        · exact k r hr
section
variable {X : Cx} {E : XK} {CX : CXT} {k : Nat} {x : Str} {R : List D → Rs D} {p pos : Pos} {e : Expr} {es : List Expr} {fe : Ev → Rs D} {fr : Ev → Rs (List D)}
theorem SN.toE (h : SN X E e fe) : SE X E e (eN fe) := PE.weak h fun σ H Q ⟨H0, ev, s, r, p⟩ => by
  refine ⟨H0, ev, s, r, ?_⟩
  unfold eN at p
  cases ef : fe ev with
  | bad => rw [ef] at p; exact p
  | exc x => rw [ef] at p; exact p
  | ok d =>
    rw [ef] at p
    simp only [Rs.ok_bind] at p
    cases eo : onB d (fun _ => (Rs.ok d : Rs D)) with
    | bad => rw [eo] at p; exact p.elim
    | exc x =>
      obtain ⟨dss, _, e2⟩ := onB_inv eo (fun z => by cases z)
      cases e2
    | ok d' =>
      obtain ⟨dss, e1, e2⟩ := onB_inv eo (fun z => by cases z)
      cases e2
      rw [eo] at p
      refine ⟨dss, e1, fun a ps H0' H' y n o => ?_⟩
      have hs : ∀ q ∈ a :: ps, H0' q = none ∧ ∃ u, H' q = some u := fun q hq => ⟨(n q hq).2, by
        rcases List.mem_cons.mp hq with rfl | hq
        · exact ⟨_, o.o⟩
        · obtain ⟨vs, hv⟩ := o.it.mem q hq
          exact ⟨_, hv⟩⟩
      obtain ⟨G, y2, s2, k⟩ := OwN.give (B0 := H) (B := H) (K := X.K) (dss := dss) (a :: ps) (fun q hq => ⟨(n q hq).1, s.free (n q hq).1⟩) y hs
      refine p (.ref a) G H' y2 ?_
      subst e1
      exact ⟨a, ps.map V.ref, rfl, SqL.of ((k a List.mem_cons_self).trans o.o), o.it.rp s2 fun q hq => k q (List.mem_cons_of_mem _ hq)⟩
theorem sn_call (G : Kn X.prog X.w X.K X.mg X.base CX k x .n R) (hr : Room k X.A) (hx : Passes CX X E) (ha : SA X E (e :: es) fr) (hg : Gl X x := by rfl) (hdb : (x == ("__debug__" : Str)) = false := by decide)
    (he : starEach (e :: es) X.env = (false, eval e X.env) :: starEach es X.env := by rfl) (hpl : (backTo pos (starEach es X.env)).any (·.1) = false := by rfl) : SN X E (.Call (.Name x p) (e :: es) [] pos) (eA R fr) := by
  obtain ⟨f, fd, ps, F, hm, hk, hb⟩ := G.ex
  refine PE.weak (pe_call F hr hg hm hk hb .nil hx ha hdb he hpl) fun σ H Q q => ?_
  refine tA_of (P := fun H0 H r => PostN (zOf X E) H0 H r Q) q (fun _ _ _ _ _ x p => p.step x) (fun _ _ _ p => p) (fun _ _ p => p) fun H0 H xs as s r p => ?_
  rw [List.append_nil]
  exact ⟨H0, as, s, r, p⟩
end
theorem lcN_of {Z : Wh} {fs : Ev → Rs (List D)} {vs : List Nat} {i : Nat} {gp : Ev → Rs Bool} {fe : Ev → Rs D} (hi : i ∈ vs) {σ : L2.St} {H : Hp} {Q : VK} (h : tN Z (eLc fs vs i gp fe) σ H Q) : tLc (iS Z fs) (gName i) (tB Z gp) (tO Z fe) vs σ H Q := by
  obtain ⟨H0, ev, s, rv, p⟩ := h
  refine ⟨H0, ev, s, rv, ?_⟩
  unfold eLc at p
  cases ef : fs ev with
  | bad => rw [ef] at p; exact p
  | exc x => rw [ef] at p; exact p
  | ok items =>
    rw [ef] at p
    intro J H1 H' y wk D0 nD
    have p := p.step y
    simp only [Rs.ok_bind] at p
    by_cases hl : items.length ≤ 100000
    · rw [if_pos hl] at p
      cases em : mapF (fun d => gp ((wipeE ev vs).set i (some d))) (fun d => fe ((wipeE ev vs).set i (some d))) items with
      | bad => rw [em] at p; exact p.elim
      | exc x => exact (mapF_noexc _ _ _ _ em).elim
      | ok fin =>
        rw [em] at p
        obtain ⟨dss, e0, p⟩ := p
        have e0 : fin = dss.map .list := by injection e0
        have rw0 : RpV Z.K H1 (L2.wipe σ vs) (wipeE ev vs) := (rv.mono y.a).wipe vs
        refine ⟨fun t m Hc => t ≤ items.length ∧ m = items.length - t ∧ ∃ H0c out qs rest, Ex2 H1 H' H0c Hc ∧ Hc D0 = some (.lst (qs.map V.ref)) ∧ H0c D0 = none ∧ NsL Z.K H0c Hc out qs ∧ (∀ q ∈ qs, H' q = none ∧ H0c q = none) ∧ (D0 :: qs).Nodup ∧ out.length ≤ t ∧
            mapF (fun d => gp ((wipeE ev vs).set i (some d))) (fun d => fe ((wipeE ev vs).set i (some d))) (items.drop t) = .ok rest ∧ out.map .list ++ rest = fin,
          ⟨items.length, Nat.zero_le _, by rw [Nat.sub_zero], H1, [], [], fin, Ex2.out y.c nD _, upd_same, y.c.free nD, rfl, (fun q hq => nomatch hq), (by simp), Nat.zero_le _, by rw [List.drop_zero]; exact em, rfl⟩, ?_⟩
        rintro t m Hc ⟨ht, rfl, H0c, out, qs, rest, xc, hD, hD0, ro, nq, nd, lo, er, efin⟩
        have sb : Same H1 Hc := xc.a.trans xc.c
        by_cases hlt : t < items.length
        · have hd : items.drop t = items[t] :: items.drop (t + 1) := List.drop_eq_getElem_cons hlt
          rw [hd] at er
          refine .inr ⟨wk.go t Hc sb hlt, fun Hd => ∃ H0c out qs rest, Ex2 H1 H' H0c Hd ∧ Hd D0 = some (.lst (qs.map V.ref)) ∧ H0c D0 = none ∧ NsL Z.K H0c Hd out qs ∧ (∀ q ∈ qs, H' q = none ∧ H0c q = none) ∧ (D0 :: qs).Nodup ∧ out.length ≤ t + 1 ∧
            mapF (fun d => gp ((wipeE ev vs).set i (some d))) (fun d => fe ((wipeE ev vs).set i (some d))) (items.drop (t + 1)) = .ok rest ∧ out.map .list ++ rest = fin, fun Hd q => ⟨items.length - (t + 1), by omega, hlt, rfl, q⟩, fun x Hd hy => ?_⟩
          obtain ⟨H0d, yd, rd⟩ := wk.yld t Hc H0c x Hd items[t] xc.a xc.c (List.getElem?_eq_getElem hlt) hy
          refine ⟨wipe_own σ vs i _ hi, ?_⟩
          have rv1 : RpV Z.K H0d ((L2.wipe σ vs).set i (some x)) ((wipeE ev vs).set i (some items[t])) := (rw0.mono (xc.a.trans yd.a)).set rd i
          refine ⟨H0d, _, yd.c, rv1, ?_⟩
          unfold mapF at er
          cases eg : gp ((wipeE ev vs).set i (some items[t])) with
          | bad => rw [eg] at er; cases er
          | exc x => rw [eg] at er; cases er
          | ok k =>
            rw [eg] at er
            intro He se
            have ye : Ex2 H0c Hc H0d He := yd.trans (.up yd.c se)
            have keep : ∀ {Hz H0z : Hp}, Ex2 H0c Hc H0z Hz → ∀ q ∈ qs, H' q = none ∧ H0z q = none := fun {Hz H0z} yz q hq => by
              obtain ⟨ws, hw⟩ := ro.mem q hq
              exact ⟨(nq q hq).1, (yz.d q _ hw).trans (nq q hq).2⟩
            cases k with
            | false =>
              rw [if_neg Bool.false_ne_true]
              exact ⟨H0d, out, qs, rest, xc.trans ye, ye.b _ _ hD, (ye.d D0 _ hD).trans hD0, ro.mono ye.a ye.b, keep ye, nd, by omega, er, efin⟩
            | true =>
              rw [if_pos rfl]
              refine ⟨H0d, _, ye.c, rv1, ?_⟩
              simp only at er
              cases eb : fe ((wipeE ev vs).set i (some items[t])) with
              | bad => rw [eb] at er; cases er
              | exc x => rw [eb] at er; cases er
              | ok d =>
                rw [eb] at er
                simp only at er
                intro u H0f Hf yf nu nu0 ou
                have yt := ye.trans yf
                cases em2 : mapF (fun d => gp ((wipeE ev vs).set i (some d))) (fun d => fe ((wipeE ev vs).set i (some d))) (items.drop (t + 1)) with
                | bad => rw [em2] at er; cases er
                | exc x => exact (mapF_noexc _ _ _ _ em2).elim
                | ok rest2 =>
                  rw [em2] at er
                  cases er
                  have hD' := yt.b _ _ hD
                  have hD0' : H0f D0 = none := (yt.d D0 _ hD).trans hD0
                  have isl : ∃ ds, d = .list ds := by
                    have hm : d ∈ dss.map PyData.list := by rw [← e0, ← efin]; simp
                    obtain ⟨ds, _, e9⟩ := List.mem_map.mp hm
                    exact ⟨ds, e9.symm⟩
                  obtain ⟨ds, rfl⟩ := isl
                  rcases ou with ⟨es, ws, g1, g2, g3⟩ | ⟨ps9, g1, _⟩
                  · cases g1
                    have nuD : u ≠ D0 := fun z => by
                      subst z
                      rw [ye.b _ _ hD] at nu; cases nu
                    have nuq : u ∉ qs := fun hq => by
                      obtain ⟨ws, hw⟩ := ro.mem u hq
                      rw [ye.b _ _ hw] at nu; cases nu
                    have nDq : D0 ∉ qs := (List.nodup_cons.mp nd).1
                    refine ⟨qs.map V.ref, hD', ?_, H0f, out ++ [ds], qs ++ [u], rest2, ?_, by rw [upd_same, List.map_append]; rfl, hD0', ?_, fun q hq => ?_, ?_, by rw [List.length_append]; simp only [List.length_singleton]; omega, rfl, ?_⟩
                    · rw [List.length_map, ro.len]
                      exact Nat.lt_of_le_of_lt (show out.length ≤ 100000 by omega) (by decide)
                    · have xt := xc.trans yt
                      exact ⟨xt.a, same_upd xt.b nD _, same_upd xt.c hD0' _, xt.d⟩
                    · refine NsL.stay (NsL.app (ro.mono yt.a yt.b) ⟨u, [], rfl, ⟨ws, g2, g3⟩, rfl⟩) fun q hq => upd_ne fun z => ?_
                      subst z
                      rcases List.mem_append.mp hq with hq | hq
                      · exact nDq hq
                      · exact nuD (List.mem_singleton.mp hq).symm
                    · rcases List.mem_append.mp hq with hq | hq
                      · exact keep yt q hq
                      · obtain rfl := List.mem_singleton.mp hq
                        exact ⟨(xc.trans ye).b.free nu, nu0⟩
                    · rw [← List.cons_append]
                      refine List.nodup_append.mpr ⟨nd, by simp, fun a ha b hb => ?_⟩
                      obtain rfl := List.mem_singleton.mp hb
                      rcases List.mem_cons.mp ha with rfl | ha
                      · exact fun z => nuD z.symm
                      · exact fun z => nuq (z ▸ ha)
                    · rw [← efin]; simp
                  · cases g1
        · have et : t = items.length := by omega
          rw [et, List.drop_length] at er
          cases er
          rw [List.append_nil] at efin
          rw [e0] at efin
          have := (List.map_inj_right (fun a b e => by injection e)).mp efin
          subst this
          refine .inl ⟨wk.stop t Hc sb (by omega), p D0 qs H0c Hc xc (fun q hq => ?_) ⟨hD, nd, ro⟩⟩
          rcases List.mem_cons.mp hq with rfl | hq
          · exact ⟨nD, hD0⟩
          · exact nq q hq
    · rw [if_neg hl] at p; exact p.elim
section
variable {X : Cx} {E : XK} {elt tg iter : Expr} {ifs : List Expr} {scope : Scope} {own : List (Str × Nat)} {pos : Pos} {fs : Ev → Rs (List D)} {gp : Ev → Rs Bool} {fe : Ev → Rs D} {i : Nat}
theorem sn_lc (hc : X.calm = true) (hN : X.N.Nodup) (hi : PI X tg iter (iS (zOf X E) fs)) (ok : BlkOk X.N X.env.scope scope own)
    (hg : ∀ (s : Shared) (H : Hp) (C : Addr) (cl : List (Str × Addr)) (fp : List Addr), PG (X.blk s H scope (compEnvC scope cl C X.env) fp) tg (gName i)) (ht : ∀ (s : Shared) (H : Hp) (C : Addr) (cl : List (Str × Addr)) (fp : List Addr), PTs (X.blk s H scope (compEnvC scope cl C X.env) fp) ifs (tB (zOf X E) gp))
    (he : ∀ (s : Shared) (H : Hp) (C : Addr) (cl : List (Str × Addr)) (fp : List Addr), PE (X.blk s H scope (compEnvC scope cl C X.env) fp) elt (tO (zOf X E) fe)) (hm : i ∈ own.map (·.2)) (hs : ∀ x, foldedSetIterable iter X.env x = pure x := by intro _; rfl) :
    SN X E (.ListComp elt [⟨tg, iter, ifs, 0⟩] scope pos) (eLc fs (own.map (·.2)) i gp fe) :=
  PE.weak (pe_lc hc hN hi ok hg ht he hs) fun _ _ _ q => lcN_of hm q
end
/-! ### x.append(new list), x[i].pop() -/
section
variable {K : PySem.W.Frag} {B0 B H0 H H0' H' : Hp} {σ : L2.St} {env : SEnv}
/-- like change, and the slot takes the new object at u -/
theorem Stt.change2 (S : Stt K B0 B H0 H σ env) {i : Nat} {s s' : Sl} {q u : Addr} {o : HO} (hi : env[i]? = some s) (hq : Ft H s σ[i]? q) (hs : ∀ d, s' ≠ .sh d) (hu : ∀ (j : Nat) (t : Sl), env[j]? = some t → ¬ Ft H t σ[j]? u)
    (hw : ∀ d, s' = .ow d → ∃ p, σ[i]? = some (some (.ref p)) ∧ H0 p = none ∧ B p = none ∧ OwA K H0 (upd H q o) d p)
    (hn : ∀ dss, s' = .on dss → ∃ p ps, σ[i]? = some (some (.ref p)) ∧ OwN K H0 (upd H q o) dss p ps ∧ ∀ q ∈ p :: ps, H0 q = none ∧ B q = none)
    (hf : ∀ b, Ft (upd H q o) s' σ[i]? b → Ft H s σ[i]? b ∨ b = u) : Stt K B0 B H0 (upd H q o) σ (env.set i s') := by
  obtain ⟨n0, nB, _⟩ := S.ft_some hi hq
  refine ⟨⟨S.x.a, same_upd S.x.b nB o, same_upd S.same n0 o, S.x.d⟩, by rw [List.length_set]; exact S.len, fun j e hj => ?_, fun j e hj => ?_, fun j e hj => ?_, fun j k s1 t1 b hj hk a1 a2 => ?_⟩
  · rcases get_set hj with ⟨rfl, hl, e1⟩ | ⟨hne, hj⟩
    · exact absurd e1 (hs e)
    · exact S.sh j e hj
  · rcases get_set hj with ⟨rfl, hl, e1⟩ | ⟨hne, hj⟩
    · exact hw e e1
    · obtain ⟨u, g1, g2, g3, g4⟩ := S.ow j e hj
      have hup : u ≠ q := (S.other (o := o) hi hq hne hj).1 u g1
      refine ⟨u, g1, g2, g3, ?_⟩
      rcases g4 with ⟨ds, vs, rfl, e, r⟩ | ⟨ps, rfl, e⟩
      · exact .inl ⟨ds, vs, rfl, by rw [upd_ne hup]; exact e, r⟩
      · exact .inr ⟨ps, rfl, by rw [upd_ne hup]; exact e⟩
  · rcases get_set hj with ⟨rfl, hl, e1⟩ | ⟨hne, hj⟩
    · exact hn e e1
    · obtain ⟨p, ps, g1, g2, g3⟩ := S.on j e hj
      have hup : ∀ b ∈ p :: ps, b ≠ q := fun b hb => (S.other (o := o) hi hq hne hj).1 b ⟨p, ps, g1, g2.o, hb⟩
      exact ⟨p, ps, g1, ⟨by rw [upd_ne (hup p List.mem_cons_self)]; exact g2.o, g2.nd, g2.it.stay fun b hb => upd_ne (hup b (List.mem_cons_of_mem _ hb))⟩, g3⟩
  · have back : ∀ (j : Nat) (t : Sl), (env.set i s')[j]? = some t → Ft (upd H q o) t σ[j]? b → (∃ t', env[j]? = some t' ∧ Ft H t' σ[j]? b) ∨ (j = i ∧ b = u) := fun j t hj hb => by
      rcases get_set hj with ⟨rfl, hl, e1⟩ | ⟨hne, hj⟩
      · subst e1
        rcases hf b hb with h | h
        · exact .inl ⟨s, hi, h⟩
        · exact .inr ⟨rfl, h⟩
      · exact .inl ⟨t, hj, (S.other hi hq hne hj).2 b hb⟩
    rcases back j s1 hj a1 with ⟨t1', x1, x2⟩ | ⟨e1, e2⟩
    · rcases back k t1 hk a2 with ⟨t2', y1, y2⟩ | ⟨e3, e4⟩
      · exact S.ne j k t1' t2' b x1 y1 x2 y2
      · subst e4; exact (hu j t1' x1 x2).elim
    · rcases back k t1 hk a2 with ⟨t2', y1, y2⟩ | ⟨e3, e4⟩
      · subst e2; exact (hu k t2' y1 y2).elim
      · rw [e1, e3]
end
def sNp (k : Nat) (fe : Ev → Rs D) : SEnv → Rs Fl := fun env => owN env[k]? fun dss => (fe (hidV env)).bind fun d => lstB d fun ds => if dss.length ≤ 100000 then .ok (.nx (env.set k (.on (dss ++ [ds])))) else .bad
def sNpop (k : Nat) (fi : Ev → Rs D) : SEnv → Rs Fl := fun env => owN env[k]? fun dss => (fi (hidV env)).bind fun ix => intB ix fun j => match ixN dss.length j with
  | some n => if dss.getD n [] = [] then .bad else .ok (.nx (env.set k (.on (dss.set n (dss.getD n []).dropLast))))
  | none => .bad
section
variable {X : Cx} {E : XK} {om : Om} {o i e : Expr} {fi fe : Ev → Rs D} {pos spos apos cpos : Pos} {k : Nat}
/-- x.append(e), e a new list -/
theorem ss_np (hv : PE X o (tVar k)) (he : SO X E e fe)
    (hbase : attributeBase o "append" X.env (eval o X.env) = eval o X.env := by rfl)
    (hfew : ((backTo cpos (starEach [e] X.env)).all (fun x => !x.1) && (backToKw cpos (keywordEach [] X.env)).all (fun x => x.1.isSome)
      && decide (([e] : List Expr).length + ([] : List Keyword).length + (if ([] : List Keyword).isEmpty then 0 else 1) < 30)) = true := by rfl)
    (hline : (apos.endLine == cpos.line) = true := by rfl) (hs : starEach [e] X.env = (false, eval e X.env) :: starEach [] X.env := by rfl) (hplain : (backTo cpos (starEach [] X.env)).any (·.1) = false := by rfl)
    (hsw : swapsWith (.Call (.Attribute o "append" apos) [e] [] cpos) none pos.line X.env = pure false := by rfl) :
    SS X E om (.Expr (.Call (.Attribute o "append" apos) [e] [] cpos) pos) (sNp k fe) := by
  refine PS.weak (ps_expr (pe_bm PySem.F.plainAttrs_list PySem.F.slot_list_append PySem.F.type_list_append mt_append hv (pa_cons he pa_nil hs) hbase hfew hline hs hplain) hsw) fun Dn σ H ⟨B0, B, H0, env, S, p⟩ => ?_
  unfold sNp owN at p
  split at p
  · rename_i dss hd
    obtain ⟨a, ps, h1, o1, n1⟩ := S.on k _ hd
    refine ⟨.ref a, h1, .inl ⟨rfl, _, SqL.of o1.o⟩, ?_⟩
    refine ⟨H0, hidV env, S.same, S.hid, ?_⟩
    cases ef : fe (hidV env) with
    | bad => rw [ef] at p; exact p
    | exc x => rw [ef] at p; exact p.excs S.x.b
    | ok d =>
      rw [ef] at p
      intro u H0' H' y nu nu0 ou
      cases d with
      | list ds =>
        simp only [Rs.ok_bind, lstB] at p
        by_cases c : dss.length ≤ 100000
        · rw [if_pos c] at p
          rcases ou with ⟨es, ws, g1, g2, g3⟩ | ⟨ps9, g1, _⟩
          · cases g1
            have S1 := S.grow y
            have o2 := o1.mono y.a y.b
            have nua : u ≠ a := fun z => by
              subst z
              rw [o1.o] at nu; cases nu
            have nuq : u ∉ ps := fun hq => by
              obtain ⟨ws, hw⟩ := o1.it.mem u hq
              rw [hw] at nu; cases nu
            refine ⟨a, ps.map V.ref, .ref u, rfl, rfl, o2.o, by rw [List.length_map, o1.it.len]; exact Nat.lt_of_le_of_lt c (by decide), ?_⟩
            have oN : OwN X.K H0' (upd H' a (.lst (ps.map V.ref ++ [.ref u]))) (dss ++ [ds]) a (ps ++ [u]) := by
              refine ⟨by rw [upd_same, List.map_append]; rfl, ?_, ?_⟩
              · rw [← List.cons_append]
                refine List.nodup_append.mpr ⟨o1.nd, by simp, fun z hz b hb => ?_⟩
                obtain rfl := List.mem_singleton.mp hb
                rcases List.mem_cons.mp hz with rfl | hz
                · exact fun w => nua w.symm
                · exact fun w => nuq (w ▸ hz)
              · refine NsL.stay (NsL.app o2.it ⟨u, [], rfl, ⟨ws, g2, g3⟩, rfl⟩) fun q hq => upd_ne fun z => ?_
                subst z
                rcases List.mem_append.mp hq with hq | hq
                · exact (List.nodup_cons.mp o1.nd).1 hq
                · exact nua (List.mem_singleton.mp hq).symm
            refine p σ H0' _ (S1.change2 (u := u) hd ⟨a, ps, h1, o2.o, List.mem_cons_self⟩ (fun _ z => Sl.noConfusion z) (fun j t hj hp => ?_) (fun _ z => Sl.noConfusion z) (fun e he => ?_) fun b hb => ?_)
            · have h9 := (S.ft_some hj (S.ft_back y.b hj hp)).2.2
              rcases h9 with ⟨vs, e⟩ | ⟨ps, e⟩
              · rw [nu] at e; cases e
              · rw [nu] at e; cases e
            · injection he with he
              subst he
              refine ⟨a, ps ++ [u], h1, oN, fun q hq => ?_⟩
              rcases List.mem_cons.mp hq with rfl | hq
              · exact ⟨(y.d q _ o1.o).trans (n1 q List.mem_cons_self).1, (n1 q List.mem_cons_self).2⟩
              · rcases List.mem_append.mp hq with hq | hq
                · obtain ⟨ws, hw⟩ := o1.it.mem q hq
                  exact ⟨(y.d q _ hw).trans (n1 q (List.mem_cons_of_mem _ hq)).1, (n1 q (List.mem_cons_of_mem _ hq)).2⟩
                · obtain rfl := List.mem_singleton.mp hq
                  exact ⟨nu0, S.x.b.free nu⟩
            · obtain ⟨p2, ps2, f1, f2, f3⟩ := hb
              rw [h1] at f1
              cases f1
              rw [oN.o] at f2
              injection f2 with f2
              injection f2 with f2
              have := refs_inj f2
              subst this
              rcases List.mem_cons.mp f3 with rfl | f3
              · exact .inl ⟨b, ps, h1, o2.o, List.mem_cons_self⟩
              · rcases List.mem_append.mp f3 with f3 | f3
                · exact .inl ⟨a, ps, h1, o2.o, List.mem_cons_of_mem _ f3⟩
                · exact .inr (List.mem_singleton.mp f3)
          · cases g1
        · rw [if_neg c] at p; exact p.elim
      | _ => exact p.elim
  · exact p.elim
theorem ss_npop (hv : PE X o (tVar k)) (hi : SE X E i fi) (hpl : PlainIx i)
    (hbase : attributeBase (.Subscript o i spos) "pop" X.env (eval (.Subscript o i spos) X.env) = eval (.Subscript o i spos) X.env := by rfl)
    (hline : (apos.endLine == cpos.line) = true := by rfl)
    (hsw : swapsWith (.Call (.Attribute (.Subscript o i spos) "pop" apos) [] [] cpos) none pos.line X.env = pure false := by rfl) :
    SS X E om (.Expr (.Call (.Attribute (.Subscript o i spos) "pop" apos) [] [] cpos) pos) (sNpop k fi) := by
  refine PS.weak (ps_expr (pe_bm0 PySem.F.plainAttrs_list PySem.F.slot_list_pop PySem.F.type_list_pop mt_pop (pe_ix ix_seq hv hi hpl) hbase hline) hsw) fun Dn σ H ⟨B0, B, H0, env, S, p⟩ => ?_
  unfold sNpop owN at p
  split at p
  · rename_i dss hd
    obtain ⟨a, ps0, h1, _, _⟩ := S.on k _ hd
    refine ⟨.ref a, h1, H0, hidV env, S.same, S.hid, ?_⟩
    cases ei : fi (hidV env) with
    | bad => rw [ei] at p; exact p
    | exc x => rw [ei] at p; exact p.excs S.x.b
    | ok ix =>
      rw [ei] at p
      intro w H2 H3 y2 r2
      cases ix with
      | int j =>
        simp only [Rs.ok_bind, intB] at p
        cases en : ixN dss.length j with
        | none => rw [en] at p; exact p.elim
        | some n =>
          rw [en] at p
          simp only at p
          have S1 := S.grow y2
          obtain ⟨ps, o1⟩ := S1.onK hd h1
          have hn := ixN_lt en
          obtain ⟨q, vs, hq, hqv, hr⟩ := o1.it.get (List.getElem?_eq_getElem hn)
          have hlen : ps.length = dss.length := o1.it.len
          have at1 : atI (ps.map V.ref) j = some (.ref q) := by
            unfold atI
            rw [List.length_map, hlen, en]
            simp [hq]
          have gd : dss.getD n [] = dss[n] := by simp [hn]
          by_cases c : dss.getD n [] = []
          · rw [if_pos c] at p; exact p.elim
          · rw [if_neg c] at p
            rw [gd] at c p
            have hv1 : vs.length - 1 < vs.length := by
              have h8 : vs.length = dss[n].length := hr.length
              have h9 : dss[n].length ≠ 0 := fun z => c (List.length_eq_zero_iff.mp z)
              omega
            refine .inl ⟨a, ps.map V.ref, j, .ref q, rfl, r2, SqL.of o1.o, at1, ?_⟩
            refine ⟨.inl ⟨rfl, vs, SqL.of hqv⟩, q, vs, _, rfl, rfl, hqv, List.getElem?_eq_getElem hv1, ?_⟩
            exact p _ H2 _ (S1.nmut hd h1 o1 hq hr.dropLast)
      | _ => exact p.elim
  · exact p.elim
end
end Sk

namespace Sk
open PySem PySem.Spec PyProof.Rows L2
/-! ### a caught exception is tracked -/
section
variable {X : Cx} {pins : List (Addr × Obj)} {σ : L2.St} {H : Hp} {s : Shared}
theorem trackE (I : Inv X pins σ H s) {a : Addr} {cls : Value} {oe : Obj} {vs : Array Value} (ha : s.heap.get? a = some oe) (hz : Zc cls none oe) (hd : oe.data = .fields vs) (na : H a = none) (n0 : X.s_0.heap.get? a = none)
    (nL : a ≠ X.env.locals) (np : ∀ p ∈ X.pn ++ pins, p.1 ≠ a) : Inv (X.suite a (X.pn ++ pins)) [] σ (upd H a (ExE cls a)) s := by
  have up : ∀ b o, H b = some o → upd H a (ExE cls a) b = some o := fun b o e => by rw [upd_ne (ne_of_none e na)]; exact e
  have ne0 : ∀ b o, X.s_0.heap.get? b = some o → b ≠ a := fun b o e z => by
    subst z
    rw [n0] at e; cases e
  constructor
  · exact I.ok.suite a (X.pn ++ pins)
  · exact I.os
  · exact I.bare
  · constructor
    · exact I.base.keep
    · exact I.base.slot
    · intro b o e n m
      rw [upd_ne (ne0 b o e)]
      exact I.base.free b o e n m
    · exact I.base.there
    · intro b xs e
      exact up _ _ (I.base.tups b xs e)
    · intro b o xs e
      exact up _ _ (I.base.frzs b o xs e)
    · intro b ps e
      obtain ⟨m, q⟩ := I.base.tbls b ps e
      exact ⟨m, up _ _ q⟩
  · exact I.loc
  · exact I.cell
  · rw [upd_ne (Ne.symm nL)]
    exact I.free
  · intro x c e
    obtain ⟨w, o, ho, hw⟩ := I.cell x c e
    have : c ≠ a := fun z => by
      subst z
      rw [ha] at ho
      cases ho
      rw [hd] at hw; cases hw
    rw [upd_ne this]
    exact I.freeC x c e
  · intro p hp
    rw [List.append_nil] at hp
    obtain ⟨e, n, r⟩ := I.pin p hp
    refine ⟨e, ?_, r⟩
    rw [upd_ne (np p hp)]
    exact n
  · intro b u e
    by_cases hb : b = a
    · subst hb
      rw [upd_same] at e
      cases e
      exact ⟨⟨oe, vs, ha, hz, hd⟩, ⟨oe, ha⟩, fun h1 h2 ⟨o, v, q, r⟩ k => ⟨o, v, k o q, r⟩⟩
    · rw [upd_ne hb] at e
      refine ObjOk.stay (I.hok b u e) (fun c w _ q => q) (fun c q => up _ _ q) (fun c xs q => up _ _ q)
  · exact I.len
theorem backE {a : Addr} (I : Inv (X.suite a (X.pn ++ pins)) [] σ H s) (ok : X.Ok) : Inv X pins σ H s := by
  constructor
  · exact ok
  · exact I.os
  · exact I.bare
  · exact I.base
  · exact I.loc
  · exact I.cell
  · exact I.free
  · exact I.freeC
  · intro p hp
    exact I.pin p (List.mem_append_left _ hp)
  · exact I.hok
  · exact I.len
end
/-- the ends of a suite whose clause binds slot i -/
def unE (i : Nat) (D : Ends) : Ends := { nx := fun σ' H' => D.nx (σ'.set i none) H', rt := D.rt, bk := fun σ' H' => D.bk (σ'.set i none) H', ct := fun σ' H' => D.ct (σ'.set i none) H' }
/-- what the clauses wish -/
def wH (K : PySem.W.Frag) (i : Nat) (D : Ends) : List (Value × TS) → WX
  | [] => fun _ _ _ _ => False
  | (c, ts) :: r => fun cls d σ H => ∃ b, PySem.W.exmOne K cls c = some b ∧ (b = true → d = none ∧ ∀ a, H a = none → ts (unE i D) (σ.set i (some (.ref a))) (upd H a (ExE cls a))) ∧ (b = false → wH K i D r cls d σ H)
inductive HdsE (X : Cx) (n : Str) : List ExceptHandler → List (Value × TS) → Prop
  | nil : HdsE X n [] []
  | cons {x : Str} {c : Value} {ts : TS} {st : Stmt} {suite : List Stmt} {p1 p2 : Pos} {hds : List ExceptHandler} {l : List (Value × TS)} (hc : Names X x c) (hsu : ∀ (a : Addr) (pn : List (Addr × Obj)), PSs (X.suite a pn) (st :: suite) ts)
      (r : HdsE X n hds l) : HdsE X n (.ExceptHandler (some (.Name x p1)) (some n) (st :: suite) p2 :: hds) ((c, ts) :: l)
section
variable {X : Cx} {n : Str} {i : Nat} {body : List Stmt} {hd0 : ExceptHandler} {hds : List ExceptHandler} {l : List (Value × TS)} {pos : Pos} {tb : WX → TS}
theorem ps_tryE (hs : X.stack = X.env :: X.outer) (hf : X.env.frame = some X.env.locals) (hx : X.ex = []) (hN : X.N.Nodup) (hi : X.N[i]? = some n) (hln : X.env.kindOf n = some .local)
    (hb : ∀ (W : WX) (pn : List (Addr × Obj)) (xe : Value → Shared → Prop), Takes (X.tr pn xe) W → PSs (X.tr pn xe) body (tb W)) (hh : HdsE X n (hd0 :: hds) l) :
    PS X (.Try body (hd0 :: hds) [] [] pos) (fun D σ H => tb (wH X.K i D l) D σ H) := by
  constructor
  intro pins s σ H D I h
  have ok := I.ok
  have hfr : X.A.frames = some (X.env :: X.outer) := by rw [← hs]; exact ok.frames
  refine wpAny_Try_except (wpAny_mono ((hb (wH X.K i D l) (X.pn ++ pins) _ (fun u s' xx => ?_)).run [] s σ H D (I.toTry _) h) (fun f s1 hsp => ?_) (fun e s1 he => he))
  · obtain ⟨a, B, sI, pins', σ', H', cls, d, rfl, J', nb, up, sky, na, os, ag, w⟩ := xx
    have J : Inv X pins σ' H' sI := J'.ofTry ok
    refine Sky.land (B := B) (L := X.env.locals) (Z := Zc cls d) Zc.steady hfr hf (by rw [← hs]; exact sky) fun h3 fl3 up3 => ?_
    have J3 : Inv X pins σ' H' { s' with heap := h3 } := J.landed nb fl3.1 (up.trans up3) os ag
    obtain ⟨oe3, vs3, he3, hz3, hd3⟩ := fl3.there
    have nfr : a ∉ frs (X.env :: X.outer) := fun hm => by
      obtain ⟨_, o', e', hnf⟩ := fl3.2.2.1.mem hm
      rw [he3] at e'; cases e'
      exact hnf _ hd3
    have nL : a ≠ X.env.locals := fun z => nfr (List.mem_filterMap.mpr ⟨X.env, List.mem_cons_self, by rw [hf, z]⟩)
    have nI : sI.heap.get? a = none := by
      cases e : sI.heap.get? a with
      | none => rfl
      | some o =>
        have z := nb a o e (by rw [hs]; exact nfr)
        rw [fl3.2.1] at z; cases z
    have n0 : X.s_0.heap.get? a = none := by
      cases e : X.s_0.heap.get? a with
      | none => rfl
      | some o =>
        obtain ⟨o', z⟩ := J.base.there a o e (by rw [hx]; exact fun y => nomatch y)
        rw [nI] at z; cases z
    have npn : ∀ p ∈ X.pn ++ pins, p.1 ≠ a := fun p hp z => by
      have q := (J.pin p hp).1
      rw [z, nI] at q; cases q
    have nF : a ∉ X.fs := fun hm => by
      obtain ⟨e, he, q⟩ := List.mem_filterMap.mp hm
      exact nfr (List.mem_filterMap.mpr ⟨e, List.mem_cons_of_mem _ he, q⟩)
    have S3 := J3.suite he3 hd3 na nL nF
    have LT : PySem.W.Looks (model X.prog X.w) h3 (typeOf (.ref a)) cls := fun A Q E s k q => wpAny_typeOf_ref (k _ _ he3) (by rw [hz3.1]; exact q)
    have go : ∀ {hds' : List ExceptHandler} {l' : List (Value × TS)}, HdsE X n hds' l' → wH X.K i D l' cls d σ' H' →
        wpAny (model X.prog X.w) X.A (handleBy (.ref a) X.env hds') (SP X pins D) X.xe { s' with heap := h3 } := by
      intro hds' l' hk
      induction hk with
      | nil => exact fun w => w.elim
      | @cons x c ts st suite p1 p2 hds2 l2 hc hsu r ih =>
        rintro ⟨b, hb1, hyes, hno⟩
        refine wpAny_handleBy_cons (codeAny_handlers_test ?_) (by intro q; cases q)
        have LM := PySem.W.exm_one (M := model X.prog X.w) (J3.kIn) LT hb1
        have test : ∀ {Q : Value → Shared → Prop} {E : Value → Shared → Prop}, Q c { s' with heap := h3 } → wpAny (model X.prog X.w) (X.A.mark (some (.ref a))) (eval (.Name x p1) X.env) Q E { s' with heap := h3 } := by
          intro Q E q
          obtain ⟨hg, hdbg, hm | ⟨hm, hv, hnn⟩⟩ := hc
          · exact ld_glob (X := X.suite a ((a, oe3) :: (X.pn ++ pins))) S3 hg hm q hdbg
          · exact ld_blt (X := X.suite a ((a, oe3) :: (X.pn ++ pins))) S3 hg hm hv q hnn hdbg
        refine test (LM.here ?_)
        cases b with
        | false => exact ih (hno rfl)
        | true =>
          obtain ⟨hd', hy2⟩ := hyes rfl
          subst hd'
          refine codeAny_handlers_suite_as (HandSPX.lands_againZ fl3 fun h4 fl4 up4 => ?_)
          have J4 : Inv X pins σ' H' { s' with heap := h4 } := J.landed nb fl4.1 ((up.trans up3).trans up4) os ag
          obtain ⟨oe4, vs4, he4, hz4, hd4⟩ := fl4.there
          have S4 := trackE J4 he4 hz4 hd4 na n0 nL npn
          refine store_ok (X := X.suite a (X.pn ++ pins)) (v := .ref a) S4 hN hi (.inl hln) rfl (fun s5 S5 => ?_) (.inr hln)
          have done : ∀ {σ6 : L2.St} {H6 : Hp} {s6 : Shared} {Q : Shared → Prop}, Inv (X.suite a (X.pn ++ pins)) [] σ6 H6 s6 → (∀ s7, Inv X pins (σ6.set i none) H6 s7 → Q s7) →
              wpAny (model X.prog X.w) X.A (do bindName X.env n .none; unbindBehindTheSuite X.env n p2) (fun _ s7 => Q s7) X.xe s6 := fun S6 hq => gone_ok (backE S6 ok) hN hi hln hq
          refine wpAny_mono ((hsu a (X.pn ++ pins)).run [] s5 _ _ (unE i D) S5 (hy2 a na)) (fun f s6 hsp => ?_) (fun _ _ z => z.elim)
          cases f with
          | ret u =>
            obtain ⟨v6, σ6, H6, S6, r6, q6⟩ := hsp
            exact done S6 fun s7 J7 => ⟨_, _, _, J7, r6, q6⟩
          | next =>
            obtain ⟨σ6, H6, S6, q6⟩ := hsp
            exact done S6 fun s7 J7 => ⟨_, _, J7, q6⟩
          | brk =>
            obtain ⟨σ6, H6, S6, q6⟩ := hsp
            exact done S6 fun s7 J7 => ⟨_, _, J7, q6⟩
          | cont =>
            obtain ⟨σ6, H6, S6, q6⟩ := hsp
            exact done S6 fun s7 J7 => ⟨_, _, J7, q6⟩
    exact go hh w
  · cases f with
    | ret u =>
      obtain ⟨v, σ1, H1, J1, r, q⟩ := hsp
      exact ⟨v, σ1, H1, J1.ofTry ok, r, q⟩
    | next =>
      obtain ⟨σ1, H1, J1, q⟩ := hsp
      exact wpAny_execs_nil ⟨σ1, H1, J1.ofTry ok, q⟩
    | brk =>
      obtain ⟨σ1, H1, J1, q⟩ := hsp
      exact ⟨σ1, H1, J1.ofTry ok, q⟩
    | cont =>
      obtain ⟨σ1, H1, J1, q⟩ := hsp
      exact ⟨σ1, H1, J1.ofTry ok, q⟩
end
end Sk

namespace Sk
open PySem PySem.Spec PyProof.Rows L2
/-! ### a try's body: calls alone -/
def PostU (Z : Wh) (H : Hp) (r : Rs Unit) (Q : Hp → Prop) : Prop := match r with
  | .ok _ => ∀ H', Same H H' → Q H'
  | .exc x => ∀ H', Same H H' → EX Z.mg Z.E x H'
  | .bad => False
def tU (K : PySem.W.Frag) (mg : Str → Option Value) (W : WX) (fb : Ev → Rs Unit) : TS := fun Dn σ H => ∃ H0 ev, Same H0 H ∧ RpV K H0 σ ev ∧ PostU ⟨K, mg, WE W σ⟩ H (fb ev) fun H' => Dn.nx σ H'
def uC (fe : Ev → Rs D) : Ev → Rs Unit := fun ev => (fe ev).bind fun _ => .ok ()
def uS (fa fb : Ev → Rs Unit) : Ev → Rs Unit := fun ev => (fa ev).bind fun _ => fb ev
section
variable {X : Cx} {W : WX} {k : Nat} {x : Str} {R : List D → Rs D} {p pos pos2 : Pos} {e : Expr} {es : List Expr} {fr : Ev → Rs (List D)}
theorem su_call (G : Kn X.prog X.w X.K X.mg X.base (L2.CX X.prog X.w) k x .e R) (hr : Room k X.A) (tk : Takes X W) (ha : ∀ E, SA X E (e :: es) fr) (hg : Gl X x := by rfl) (hdb : (x == ("__debug__" : Str)) = false := by decide)
    (he : starEach (e :: es) X.env = (false, eval e X.env) :: starEach es X.env := by rfl) (hpl : (backTo pos (starEach es X.env)).any (·.1) = false := by rfl)
    (hs : swapsWith (.Call (.Name x p) (e :: es) [] pos) none pos2.line X.env = pure false := by rfl) :
    PS X (.Expr (.Call (.Name x p) (e :: es) [] pos) pos2) (tU X.K X.mg W (uC (eA R fr))) := by
  obtain ⟨f, fd, ps, F, hm, hk, hb⟩ := G.ex
  have A : PA X (e :: es) (fun σ H Q => tA ⟨X.K, X.mg, WE W σ⟩ fr σ H Q) := ⟨fun pos pins s σ H Q I q => (ha (WE W σ)).run pos pins s σ H Q I q⟩
  refine PS.weak (ps_expr (pe_callS F hr hg hm hk hb (fun σ => passAt tk σ) A hdb he hpl) hs) fun Dn σ H q => ?_
  obtain ⟨H0, ev, s, rv, q⟩ := q
  refine tA_of (Z := ⟨X.K, X.mg, WE W σ⟩) (P := fun H0 H r => PostE ⟨X.K, X.mg, WE W σ⟩ H0 H r fun _ H' => Dn.nx σ H') (op := R) ⟨H0, ev, s, rv, ?_⟩ (fun _ _ _ _ _ x p => p.step x) (fun _ _ _ p => p) (fun _ _ p => p) fun H0 H xs as s r p => ⟨H0, as, s, r, p⟩
  unfold uC eA at q
  cases ea : (fr ev).bind R with
  | bad => rw [ea] at q; exact q.elim
  | exc x => rw [ea] at q; exact q
  | ok d => rw [ea] at q; exact fun v A B y _ => q B y.b
variable {st : Stmt} {rest : List Stmt} {fa fb : Ev → Rs Unit}
theorem su_one (h : PS X st (tU X.K X.mg W fa)) : PSs X [st] (tU X.K X.mg W fa) := pss_one h
theorem su_cons (h : PS X st (tU X.K X.mg W fa)) (t : PSs X rest (tU X.K X.mg W fb)) : PSs X (st :: rest) (tU X.K X.mg W (uS fa fb)) := by
  refine PSs.weak (pss_cons h t) fun Dn σ H ⟨H0, ev, s, rv, q⟩ => ?_
  refine ⟨H0, ev, s, rv, ?_⟩
  unfold uS at q
  cases ea : fa ev with
  | bad => rw [ea] at q; exact q.elim
  | exc x => rw [ea] at q; exact q
  | ok d =>
    rw [ea] at q
    intro H' s'
    refine ⟨H0, ev, s.trans s', rv, ?_⟩
    simp only [Rs.ok_bind] at q
    cases eb : fb ev with
    | bad => rw [eb] at q; exact q
    | exc x => rw [eb] at q; exact fun H'' s'' => q H'' (s'.trans s'')
    | ok d => rw [eb] at q; exact fun H'' s'' => q H'' (s'.trans s'')
end
/-! ### try -/
def clrE (i : Nat) : Fl → Fl
  | .nx e => .nx (e.set i .un)
  | .bk e => .bk (e.set i .un)
  | .ct e => .ct (e.set i .un)
  | .rt d => .rt d
abbrev Hd := List String × List String × (SEnv → Rs Fl)
def hndl (i : Nat) (x : String) (env : SEnv) : List Hd → Rs Fl
  | [] => .bad
  | (yes, no, f) :: r => if yes.contains x = true then (match f (env.set i (.sh (dE (Str.ofString x)))) with | .ok fl => .ok (clrE i fl) | _ => .bad) else if no.contains x = true then hndl i x env r else .bad
def sTry (fb : Ev → Rs Unit) (i : Nat) (hs : List Hd) : SEnv → Rs Fl := fun env => match fb (allV env) with
  | .ok _ => .ok (.nx env)
  | .exc x => hndl i x env hs
  | .bad => .bad
/-- the class c takes (b) those named xs -/
def ExY (K : PySem.W.Frag) (mg : Str → Option Value) (c : Value) (b : Bool) (xs : List String) : Prop :=
  ∀ x ∈ xs, ∃ C, mg (Str.ofString x) = some (.ref C) ∧ PySem.W.nsIn K mainGlobals (Str.ofString x) = some (some (.ref C)) ∧ PySem.W.exmOne K (.ref C) c = some b
theorem ExY.nil {K mg c b} : ExY K mg c b [] := fun _ h => nomatch h
theorem ExY.cons {K : PySem.W.Frag} {mg : Str → Option Value} {c : Value} {b : Bool} {x : String} {xs : List String} {C : Addr} (h1 : mg (Str.ofString x) = some (.ref C)) (h2 : PySem.W.nsIn K mainGlobals (Str.ofString x) = some (some (.ref C))) (h3 : PySem.W.exmOne K (.ref C) c = some b)
    (r : ExY K mg c b xs) : ExY K mg c b (x :: xs) := fun y hy => by
  rcases List.mem_cons.mp hy with rfl | hy
  · exact ⟨C, h1, h2, h3⟩
  · exact r y hy
inductive HdL (X : Cx) (om : Om) (n : Str) : List ExceptHandler → List Hd → Prop
  | nil : HdL X om n [] []
  | cons {x : Str} {c : Value} {yes no : List String} {f : SEnv → Rs Fl} {st : Stmt} {suite : List Stmt} {p1 p2 : Pos} {hds : List ExceptHandler} {l : List Hd} (hc : Names X x c) (hy : ExY X.K X.mg c true yes) (hn : ExY X.K X.mg c false no)
      (hsu : ∀ (a : Addr) (pn : List (Addr × Obj)), SSs (X.suite a pn) (fun _ _ _ => False) om (st :: suite) f) (r : HdL X om n hds l) : HdL X om n (.ExceptHandler (some (.Name x p1)) (some n) (st :: suite) p2 :: hds) ((yes, no, f) :: l)
theorem Stt.set_un {K : PySem.W.Frag} {B0 B H0 H : Hp} {σ : L2.St} {env : SEnv} (S : Stt K B0 B H0 H σ env) (i : Nat) : Stt K B0 B H0 H (σ.set i none) (env.set i .un) := by
  have keep : ∀ {j : Nat}, i ≠ j → (σ.set i none)[j]? = σ[j]? := fun h => List.getElem?_set_ne h
  refine ⟨S.x, by rw [List.length_set, List.length_set]; exact S.len, fun j e hj => ?_, fun j e hj => ?_, fun j e hj => ?_, fun j k s t b hj hk h1 h2 => ?_⟩
  · rcases get_set hj with ⟨_, _, e1⟩ | ⟨hne, hj⟩
    · cases e1
    · rw [keep hne]; exact S.sh j e hj
  · rcases get_set hj with ⟨_, _, e1⟩ | ⟨hne, hj⟩
    · cases e1
    · rw [keep hne]; exact S.ow j e hj
  · rcases get_set hj with ⟨_, _, e1⟩ | ⟨hne, hj⟩
    · cases e1
    · rw [keep hne]; exact S.on j e hj
  · rcases get_set hj with ⟨_, _, e1⟩ | ⟨hne, hj⟩
    · subst e1; exact h1.elim
    · rcases get_set hk with ⟨_, _, e1⟩ | ⟨hne2, hk⟩
      · subst e1; exact h2.elim
      · rw [keep hne] at h1
        rw [keep hne2] at h2
        exact S.ne j k s t b hj hk h1 h2
section
variable {X : Cx} {E : XK} {om : Om} {n : Str} {i : Nat}
theorem hdl_run {hds : List ExceptHandler} {l : List Hd} (hk : HdL X om n hds l) : ∃ l2 : List (Value × TS), HdsE X n hds l2 ∧ ∀ (x : String) (env : SEnv) (B0 B H0 H : Hp) (σ : L2.St) (Dn : Ends), Stt X.K B0 B H0 H σ env → PostS (zOf X E) om B0 B (hndl i x env l) Dn →
    ∀ C, X.mg (Str.ofString x) = some (.ref C) → wH X.K i Dn l2 (.ref C) none σ H := by
  induction hk with
  | nil => exact ⟨[], .nil, fun x env B0 B H0 H σ Dn S p => p.elim⟩
  | @cons x' c yes no f st suite p1 p2 hds l hc hy hn hsu r ih =>
    obtain ⟨l2, h2, ih⟩ := ih
    refine ⟨(c, tS ⟨X.K, X.mg, fun _ _ _ => False⟩ om f) :: l2, .cons hc hsu h2, fun x env B0 B H0 H σ Dn S p C hC => ?_⟩
    unfold hndl at p
    by_cases c1 : yes.contains x = true
    · rw [if_pos c1] at p
      obtain ⟨C', m1, m2, m3⟩ := hy x (by simpa using c1)
      rw [hC] at m1
      cases m1
      refine ⟨true, m3, fun _ => ⟨rfl, fun a na => ?_⟩, fun z => nomatch z⟩
      have y := Ex2.new S.same na (ExE (.ref C) a)
      have S2 := (S.grow y).set_sh (d := dE (Str.ofString x)) (v := .ref a) i (.inr ⟨a, _, C, rfl, rfl, m2, upd_same⟩)
      refine ⟨B0, B, _, _, S2, ?_⟩
      cases ef : f (env.set i (.sh (dE (Str.ofString x)))) with
      | bad => rw [ef] at p; exact p.elim
      | exc e => rw [ef] at p; exact p.elim
      | ok fl =>
        rw [ef] at p
        cases fl with
        | nx env' => exact fun σ' H0' H' S' => p _ H0' H' (S'.set_un i)
        | bk env' => exact fun σ' H0' H' S' => p _ H0' H' (S'.set_un i)
        | ct env' => exact fun σ' H0' H' S' => p _ H0' H' (S'.set_un i)
        | rt d => exact p
    · rw [if_neg c1] at p
      by_cases c2 : no.contains x = true
      · rw [if_pos c2] at p
        obtain ⟨C', m1, m2, m3⟩ := hn x (by simpa using c2)
        rw [hC] at m1
        cases m1
        exact ⟨false, m3, fun z => (nomatch z), fun _ => ih x env B0 B H0 H σ Dn S p C hC⟩
      · rw [if_neg c2] at p; exact p.elim
variable {body : List Stmt} {hd0 : ExceptHandler} {hds : List ExceptHandler} {l : List Hd} {pos : Pos} {fb : Ev → Rs Unit}
theorem ss_try (hN : X.N.Nodup) (hi : X.N[i]? = some n) (hln : X.env.kindOf n = some .local)
    (hb : ∀ (W : WX) (pn : List (Addr × Obj)) (xe : Value → Shared → Prop), Takes (X.tr pn xe) W → PSs (X.tr pn xe) body (tU X.K X.mg W fb)) (hh : HdL X om n (hd0 :: hds) l)
    (hs : X.stack = X.env :: X.outer := by rfl) (hf : X.env.frame = some X.env.locals := by rfl) (hx : X.ex = [] := by rfl) : SS X E om (.Try body (hd0 :: hds) [] [] pos) (sTry fb i l) := by
  obtain ⟨l2, h2, go⟩ := hdl_run (E := E) (i := i) hh
  refine PS.weak (ps_tryE (i := i) hs hf hx hN hi hln hb h2) fun Dn σ H ⟨B0, B, H0, env, S, p⟩ => ?_
  refine ⟨bor H0 H σ env, allV env, S.bor_s, S.allv, ?_⟩
  unfold sTry at p
  cases eb : fb (allV env) with
  | bad => rw [eb] at p; exact p.elim
  | ok _ => rw [eb] at p; exact fun H' s => p σ H0 H' (S.up s)
  | exc x => rw [eb] at p; exact fun H' s C hC => go x env B0 B H0 H' σ Dn (S.up s) p C hC
end
/-! ### isinstance of a caught one -/
def lkp : List (Str × Bool) → Str → Option Bool
  | [], _ => none
  | (y, b) :: r, z => if z = y then some b else lkp r z
def opIsX (tab : List (Str × Bool)) : D → Rs D := fun d => match d with
  | .dict [(.none, .str z)] => rsB (lkp tab z)
  | _ => .bad
structure IsX (K : PySem.W.Frag) (cv : Value) (z : Str) (b : Bool) : Prop where
  ex : ∃ C, PySem.W.nsIn K mainGlobals z = some (some (.ref C)) ∧ ExcC K C ∧ PySem.W.kitOne K (.ref C) cv = some b
def IsT (K : PySem.W.Frag) (cv : Value) : List (Str × Bool) → Prop
  | [] => True
  | (z, b) :: r => IsX K cv z b ∧ IsT K cv r
theorem isT_lkp {K : PySem.W.Frag} {cv : Value} {z : Str} {b : Bool} : ∀ {tab : List (Str × Bool)}, IsT K cv tab → lkp tab z = some b → IsX K cv z b
  | [], _, h => nomatch h
  | (y, b') :: r, t, h => by
    unfold lkp at h
    by_cases c : z = y
    · subst c
      rw [if_pos rfl] at h
      cases h
      exact t.1
    · rw [if_neg c] at h
      exact isT_lkp t.2 h
section
variable {X : Cx} {E : XK} {e : Expr} {fe : Ev → Rs D} {p p2 pos : Pos} {y : Str}
theorem call_isK : CallR X (.builtin "isinstance") (fun xs H Q => ∃ (a C : Addr) (c : V) (cv : Value) (b : Bool), xs = [.ref a, c] ∧ H a = some (ExE (.ref C) a) ∧ ExcC X.K C ∧ ClsV c cv ∧ PySem.W.kitOne X.K (.ref C) cv = some b ∧ Q (.bl b) H) := by
  intro pins s σ H xs us Q I r h
  obtain ⟨a, C, c, cv, b, rfl, ha, ec, k, hb, q⟩ := h
  obtain ⟨u1, u2, rfl, r1, r2⟩ := vals2 r
  cases r1
  obtain rfl := k.eq r2
  obtain ⟨⟨oe, vs, ho, hz, hd⟩, _, _⟩ := I.hok a _ ha
  have J : PySem.W.InstAt s.heap a oe C none := by
    obtain ⟨oc, od, oda, osl⟩ := oe
    obtain ⟨h1, h2⟩ := hz
    simp only at h1 h2 hd
    subst h1 h2 hd
    exact ⟨ho, rfl, rfl, trivial⟩
  exact PySem.W.kia_one (PySem.W.handS_kitx_exc ec.hg ec.hk ec.hs ec.hd ec.ha ec.hn ec.ht ec.hm) I.kIn J hb (fun z => nomatch z) fun tk => ⟨.bl b, H, I.kept (t' := tk) fun _ _ z => z, rfl, q⟩
theorem se_isx {c : V} {cv : Value} (tab : List (Str × Bool)) (h : SE X E e fe) (hm : X.mg "isinstance" = none) (hy : PE X (.Name y p2) (tC c)) (kc : ClsV c cv) (ht : IsT X.K cv tab) (hv : bootBuiltins "isinstance" = some (.builtin "isinstance")) (hg : Gl X "isinstance" := by rfl)
    (he : starEach [e, .Name y p2] X.env = (false, eval e X.env) :: starEach [.Name y p2] X.env := by rfl) (he2 : starEach [.Name y p2] X.env = (false, eval (.Name y p2) X.env) :: starEach [] X.env := by rfl)
    (hpl : (backTo pos (starEach [.Name y p2] X.env)).any (·.1) = false := by rfl) :
    SE X E (.Call (.Name "isinstance" p) [e, .Name y p2] [] pos) (e1 (opIsX tab) fe) := by
  have A : PA X [e, .Name y p2] (tCons (tE (zOf X E) fe) (tCons (tC c) tNil)) := pa_cons h (pa_cons hy pa_nil he2) he
  refine PE.weak (pe_callB call_isK hg hm hv A (he := he) (hpl := hpl)) fun σ H Q q => ?_
  obtain ⟨H0, ev, s, rv, q⟩ := q
  refine ⟨H0, ev, s, rv, ?_⟩
  unfold e1 at q
  cases ea : fe ev with
  | bad => rw [ea] at q; exact q
  | exc x => rw [ea] at q; exact q
  | ok d =>
    rw [ea] at q
    intro v H1 H' x1 r1
    replace q := q.step x1
    simp only [Rs.ok_bind] at q
    unfold opIsX at q
    split at q
    · rename_i z
      obtain ⟨b, eb, q⟩ := rsB_run x1.c q
      obtain ⟨C, n1, ec, kb⟩ := (isT_lkp ht eb).ex
      rcases r1 with ⟨a, ps, _, _, w⟩ | ⟨a, z', C', e1, e2, n2, hH⟩
      · cases ps with
        | nil => cases w
        | cons p9 r9 =>
          have w2 : ((PyData.none, PyData.str z) : D × D) = (.tuple [.int p9.1.1, .int p9.1.2], .int p9.2) := (List.cons.inj w).1
          cases w2
      · cases e2
        rw [n1] at n2
        cases n2
        exact ⟨a, C, c, cv, b, by rw [e1], x1.c _ _ hH, ec, kc, kb, q⟩
    · exact q.elim
theorem pe_cls {C : Addr} (hg : Gl X y) (hm : X.mg y = some (.ref C)) (hd : (y == ("__debug__" : Str)) = false := by decide) : PE X (.Name y p2) (tC (.ref C)) := pe_glob (v := .ref C) hg hm rfl hd
theorem pe_bty {T : String} (hg : Gl X y) (hm : X.mg y = none) (hv : bootBuiltins y = some (.type T)) (hn : y ≠ "__name__" := by decide) (hd : (y == ("__debug__" : Str)) = false := by decide) : PE X (.Name y p2) (tC (.ty T)) := pe_bltn (v := .ty T) hg hm hv rfl hn hd
end
/-! ### list.count -/
def opCount : List D → List D → Rs D
  | ds, [.bool b] => (match boolsOf ds with
    | some bs => .ok (.int (bs.count b : Nat))
    | none => .bad)
  | _, _ => .bad
def eCount (fo : Ev → Rs D) (fr : Ev → Rs (List D)) : Ev → Rs D := fun ev => (fo ev).bind fun a => lstB a fun ds => (fr ev).bind fun r => opCount ds r
def bitK (b : Bool) : Value → Bool
  | .bool c => c == b
  | _ => false
section
variable {X : Cx}
theorem bits_of : ∀ {bs : List Bool} {us : List Value}, Vals (bs.map V.bl) us → us = bs.map Value.bool
  | [], _, .nil => rfl
  | b :: bs, _, .cons r t => by
    cases (show _ = Value.bool b from r)
    rw [bits_of t]; rfl
theorem bits_count (b : Bool) : ∀ bs : List Bool, (bs.map Value.bool).countP (bitK b) = bs.count b
  | [] => rfl
  | c :: bs => by
    rw [List.map_cons, List.countP_cons, List.count_cons, bits_count b bs]; rfl
theorem mt_countB : MtR X "list.count" (fun x xs H Q => ∃ (p : Addr) (bs : List Bool) (b : Bool), x = .ref p ∧ xs = [.bl b] ∧ SqL X.K H p (bs.map V.bl) ∧ Q (.int (bs.count b : Nat)) H) := by
  intro pins s σ H x xs v us Q I rx rxs h
  obtain ⟨p, bs, b, rfl, rfl, hs, q⟩ := h
  cases rx
  cases rxs with
  | cons ru rt =>
    cases rt
    rename_i u
    have hu : RelV (V.bl b) u := ru
    cases (show u = Value.bool b from ru)
    obtain ⟨its, rv, ⟨⟨cls, dd, data, sl⟩, n, ho, hc, hdn, hd⟩, hlen⟩ := I.list hs
    simp only at hc hd
    subst hc hd
    have ei := bits_of rv
    subst ei
    have fl : (bs.map V.bl).all flatV = true := all_flatB bs
    refine call_meets PySem.F.slot_list_count ⟨_, ho, rfl⟩ PySem.F.entry_list_count (PySem.F.args_list_count_2 _ _)
      (SeqAt.list_countAt p (bs.map Value.bool).toArray n dd sl (.bool b) (eqU (.bl b))) ⟨ho, fun y hy => mem_eqAt hu rfl rv fl y (by simpa using hy), ?_⟩
    refine ⟨.int (bs.count b : Nat), H, I.tok _, ⟨s.toks, ?_⟩, q⟩
    have e9 : ∀ bs : List Bool, (bs.map Value.bool).countP (eqU (.bl b)) = bs.count b := fun bs => by
      induction bs with
      | nil => rfl
      | cons c bs ih =>
        rw [List.map_cons, List.countP_cons, List.count_cons, ih, eqU_of (y := .bl c) rfl rfl]; rfl
    show Value.int (((bs.map Value.bool).toArray.toList.countP (eqU (.bl b)) : Nat) : Int) s.toks = _
    rw [e9]
end
section
variable {X : Cx} {E : XK} {e o : Expr} {es : List Expr} {fo : Ev → Rs D} {fr : Ev → Rs (List D)} {pos apos : Pos}
theorem se_count (ho : SE X E o fo) (ha : SA X E (e :: es) fr)
    (hbase : attributeBase o "count" X.env (eval o X.env) = eval o X.env := by rfl)
    (hfew : ((backTo pos (starEach (e :: es) X.env)).all (fun x => !x.1) && (backToKw pos (keywordEach [] X.env)).all (fun x => x.1.isSome)
      && decide ((e :: es).length + ([] : List Keyword).length + (if ([] : List Keyword).isEmpty then 0 else 1) < 30)) = true := by rfl)
    (hline : (apos.endLine == pos.line) = true := by rfl) (hs : starEach (e :: es) X.env = (false, eval e X.env) :: starEach es X.env := by rfl) (hplain : (backTo pos (starEach es X.env)).any (·.1) = false := by rfl) :
    SE X E (.Call (.Attribute o "count" apos) (e :: es) [] pos) (eCount fo fr) := by
  refine PE.weak (pe_bm PySem.F.plainAttrs_list PySem.F.slot_list_count PySem.F.type_list_count mt_countB ho ha hbase hfew hline hs hplain) fun σ H Q q => ?_
  obtain ⟨H0, ev, s, rv, p⟩ := q
  refine ⟨H0, ev, s, rv, ?_⟩
  unfold eCount at p
  cases ea : fo ev with
  | bad => rw [ea] at p; exact p
  | exc x => rw [ea] at p; exact p
  | ok d =>
    rw [ea] at p
    intro v H1 H' x1 r1
    cases d with
    | list ds =>
      obtain ⟨l, vs, rfl, h1, h2⟩ := r1
      refine ⟨.inl ⟨rfl, vs, x1.c.seq h1⟩, ?_⟩
      refine ⟨H1, ev, x1.c, rv.mono x1.a, ?_⟩
      replace p := p.step x1
      simp only [Rs.ok_bind, lstB] at p
      cases eb : fr ev with
      | bad => rw [eb] at p; exact p
      | exc x => rw [eb] at p; exact p
      | ok as =>
        rw [eb] at p
        intro ws H2 H'' x2 r2
        replace p := p.step x2
        simp only [Rs.ok_bind] at p
        unfold opCount at p
        split at p
        · rename_i b
          split at p
          · rename_i bs ebs
            obtain ⟨w', rfl, rw'⟩ := r2.one
            have e9 := boolsOf_some ebs
            subst e9
            have ev9 := h2.bls
            subst ev9
            exact ⟨l, bs, b, rfl, by rw [show w' = V.bl b from rw'], (x1.c.trans x2.b).seq h1, PostE.now (d := .int _) x2.c p rfl⟩
          · exact p.elim
        · exact p.elim
    | _ => exact p.elim
end
end Sk

namespace Sk
open PySem PySem.Spec PyProof.Rows L2 L2H
/-! ### a def called where an exception is handled; it raises nothing -/
structure FnQ (P : Program) (w : World) (K : PySem.W.Frag) (mg : Str → Option Value) (base : Heap) (k : Nat) (f : Addr) (fd : FuncData) (ps : List Str) (sp : Sp) : Prop where
  len : ∀ vs H Q E, sp vs H Q E → vs.length = ps.length
  run : ∀ (A : Around) (outer : List Env) (s : Shared) (H : Hp) (args : Args) (us : List Value) (vs : List V) (Q : VK) (E : XK), RoomH k A → Env0 P w K mg base A outer s H → BindsTo s fd args (ps.zip us) → Vals vs us →
    sp vs H Q E → codeAny (model P w) A (.call (.ref f) args) (CR CX0 outer P w H s Q E) s
/-- the body's context there -/
def cxQ (P : Program) (w : World) (K : PySem.W.Frag) (mg : Str → Option Value) (base : Heap) (N : List Str) (qual : Str) (scope : Scope) (f : Addr) (cd : Value) (A : Around) (outer : List Env) (s : Shared) (H : Hp) (E : XK) : Cx :=
  { cxOf CX0 P w K mg base N qual scope f cd A outer s H E with calm := false, xe := fun _ _ => False }
section
variable {P : Program} {w : World} {K : PySem.W.Frag} {mg : Str → Option Value} {base : Heap} {k : Nat} {f : Addr} {N ps : List Str}
theorem invQ {qual : Str} {scope : Scope} {cd : Value} {A : Around} {outer : List Env} {s s1 : Shared} {H : Hp} {E : XK} {us : List Value} {vs : List V} (S : FnScope N ps scope) (e0 : Env0 P w K mg base A outer s H) (hl : vs.length = ps.length) (r : Vals vs us)
    (x : InCallC s s.heap.objs.size (bindL (envOfC qual scope s.heap.objs.size f cd).kindOf (ps.zip us) fun _ => none) (cellsFrom (s.heap.objs.size + 1) scope.names [])
      (bindC (envOfC qual scope s.heap.objs.size f cd).kindOf (ps.zip us) fun _ => none) s1) : Inv (cxQ P w K mg base N qual scope f cd A outer s H E) [] (L2.start N vs) H s1 := by
  have e1 : Env0 P w K mg base { A with handled := none } outer s H := ⟨e0.frames, e0.mod, e0.bs, e0.bsz, e0.funs, e0.frf, e0.hok, e0.bare⟩
  have I := inv_start (CX := CX0) (E := E) S (A := { A with handled := none }) rfl e1 hl r x
  have o := I.ok
  constructor
  · exact ⟨o.mod, o.kind, o.glob, o.blt, o.above, o.inj, o.has, o.cab, (fun z => nomatch (show false = true from z)), Around.frames_deeper e0.frames, o.stk, o.exf, o.bs, o.bsz, o.noex, o.exfs, o.funs, o.frf⟩
  · exact I.os
  · exact I.bare
  · exact I.base
  · exact I.loc
  · exact I.cell
  · exact I.free
  · exact I.freeC
  · exact I.pin
  · exact I.hok
  · exact I.len
theorem fnQ_of {x qual : Str} {st : Stmt} {fd : FuncData} {sp : Sp} (F : Fun K x qual st f fd) (S : FnScope N ps (defScope st)) (len : ∀ vs H Q E, sp vs H Q E → vs.length = ps.length)
    (hb : ∀ (cdv : Value) (A : Around) (outer : List Env) (s : Shared) (H : Hp) (vs : List V) (Q : VK) (E : XK), RoomH k (A.deeper (envOfC qual (defScope st) s.heap.objs.size f cdv)) → sp vs H Q E →
      ∃ t, PSs (cxQ P w K mg base N qual (defScope st) f cdv A outer s H E) (defBody st) t ∧ t { nx := fun _ H' => Q .non H', rt := Q } (L2.start N vs) H) : FnQ P w K mg base (k + 1) f fd ps sp := by
  obtain ⟨oc, od, kV, doc, pm, an, cdv, ct, osl, rfl, lk, hcd⟩ := F.ex
  refine ⟨len, fun A outer s H args us vs Q E hr e0 hbi r hsp => ?_⟩
  have hl := len _ _ _ _ hsp
  have KX : K.In s.heap := e0.mod.kin.keeps fun b o e => (e0.bs b o e).1
  have lim : s.heap.NoLimit := e0.mod.nolimit.keeps fun b o e => (e0.bs b o e).1
  have hkind : ∀ y ∈ ps.zip us, (defScope st).names.lookup y.1 = some .local ∨ ((defScope st).names.lookup y.1 = some .cell ∧ ((cellsFrom (s.heap.objs.size + 1) (defScope st).names []).lookup y.1).isSome = true) := by
    rintro ⟨n, v⟩ hy
    rcases S.par n (List.of_mem_zip hy).1 with q | q
    · exact .inl q
    · exact .inr ⟨q, PySem.W.cellsFrom_some _ _ _ (.inl q)⟩
  refine codeAny_call_function hr.depth (KX _ _ lk) rfl S.co S.gen rfl (PySem.W.codeRec_of KX hcd) (hbi _ _ _ _ (wpAny_newFunctionEnv_cells S.kind hkind fun env he s1 x => ?_))
  subst he
  refine ⟨lim.keeps x.toInCall.keep, codeAny_func ?_⟩
  obtain ⟨t, ht, hq⟩ := hb cdv A outer s H vs Q E (hr.deeper _) hsp
  have I := invQ (P := P) (w := w) (E := E) S e0 hl r x
  refine wpAny_mono (ht.run [] s1 (L2.start N vs) H _ I hq) (fun fl s' hs => ?_) fun e s' hs => hs.elim
  cases fl with
  | ret u =>
    obtain ⟨v, σ', H', J, rv, q⟩ := hs
    exact ⟨v, H', J.os, J.bare, J.base, J.hok, rv, q⟩
  | next =>
    obtain ⟨σ', H', J, q⟩ := hs
    exact ⟨V.non, H', J.os, J.bare, J.base, J.hok, rfl, q⟩
  | brk =>
    obtain ⟨_, _, _, q⟩ := hs
    exact q.elim
  | cont =>
    obtain ⟨_, _, _, q⟩ := hs
    exact q.elim
end
section
variable {X : Cx} {k : Nat} {f : Addr} {fd : FuncData} {ps : List Str} {sp : Sp} {E : XK} {x : Str} {p pos : Pos} {e : Expr} {es : List Expr} {t : TA}
theorem pe_callQ (F : FnQ X.prog X.w X.K X.mg X.base k f fd ps sp) (hr : RoomH k X.A) (hg : Gl X x) (hm : X.mg x = some (.ref f)) (hk : PySem.W.keepIn X.K (.ref f) = true) (hb : Binds X.K fd ps []) (ha : PA X (e :: es) t) (hdb : (x == ("__debug__" : Str)) = false := by decide)
    (he : starEach (e :: es) X.env = (false, eval e X.env) :: starEach es X.env := by rfl) (hpl : (backTo pos (starEach es X.env)).any (·.1) = false := by rfl) : PE X (.Call (.Name x p) (e :: es) [] pos) (fun σ H Q => t σ H fun vs H1 => sp vs H1 Q E) := by
  refine ⟨fun pins s σ H Q I h => wpAny_Call_Name_kw (ld_glob I hg hm ?_ hdb)⟩
  refine PySem.W.callWith_K (h₀ := X.base) I.ok.mod.kin hk (thn (ha.run pos pins s σ H _ I h) fun us s1 hh => ?_) he hpl
  obtain ⟨vs, H1, I1, r, q⟩ := hh
  refine ⟨I1.kIn, ?_⟩
  have hl : us.length = ps.length := by rw [← r.length]; exact F.len _ _ _ _ q
  have b := hb s1 us I1.kIn (by rw [List.append_nil]; exact hl)
  rw [List.append_nil] at b
  refine wpAny_call (codeAny_mono (F.run X.A X.stack s1 H1 ⟨us, []⟩ us vs Q E hr I1.env0 b r q) fun r' s' hq => ?_)
  cases r' with
  | error e => exact hq.elim
  | ok fl =>
    cases fl with
    | ret u => exact I1.after hq
    | next => exact hq.elim
    | brk => exact hq.elim
    | cont => exact hq.elim
end
theorem roomH_mark {k : Nat} {A : Around} {h : Option Value} (r : Room k A) : RoomH k (A.mark h) := ⟨r.dp, r.un⟩
theorem u64_mark {k : Nat} {A : Around} {h : Option Value} (r : Room k A) : (A.mark h).units + 64 < cLine := Room.u64 (k := k) (A := A) r
/-- as Kn, for such a call -/
structure KnQ (P : Program) (w : World) (K : PySem.W.Frag) (mg : Str → Option Value) (base : Heap) (k : Nat) (x : Str) (om : Om) (R : List D → Rs D) : Prop where
  ex : ∃ f fd ps, FnQ P w K mg base k f fd ps (spF K mg om R) ∧ mg x = some (.ref f) ∧ PySem.W.keepIn K (.ref f) = true ∧ Binds K fd ps []
section
variable {X : Cx} {k : Nat} {x : Str} {R : List D → Rs D} {p pos : Pos} {e : Expr} {es : List Expr} {fr : Ev → Rs (List D)} {E : XK}
theorem so_callQ (G : KnQ X.prog X.w X.K X.mg X.base k x .o R) (hr : RoomH k X.A) (ha : SA X E (e :: es) fr) (hg : Gl X x := by rfl) (hdb : (x == ("__debug__" : Str)) = false := by decide)
    (he : starEach (e :: es) X.env = (false, eval e X.env) :: starEach es X.env := by rfl) (hpl : (backTo pos (starEach es X.env)).any (·.1) = false := by rfl) : SO X E (.Call (.Name x p) (e :: es) [] pos) (eA R fr) := by
  obtain ⟨f, fd, ps, F, hm, hk, hb⟩ := G.ex
  refine PE.weak (pe_callQ (E := E) F hr hg hm hk hb ha hdb he hpl) fun σ H Q q => ?_
  exact tA_of (P := fun H0 H r => PostO (zOf X E) H0 H r Q) q (fun _ _ _ _ _ x p => p.step x) (fun _ _ _ p => p) (fun _ _ p => p) fun H0 H xs as s r p => ⟨H0, as, s, r, p⟩
end
section
variable {P : Program} {w : World} {K : PySem.W.Frag} {mg : Str → Option Value} {base : Heap} {x : Str} {st : Stmt} {N ps : List Str} {om : Om}
theorem knQ {R : Nat → List D → Rs D} {fs : Nat → SEnv → Rs Fl} (Dx : Df K mg x st ps) (S : FnScope N ps (defScope st)) (h0 : ∀ ds, R 0 ds = .bad) (hR : ∀ n, R (n + 1) = fnOf N.length ps.length om (fs n))
    (hb : ∀ n f, mg x = some (.ref f) → ∀ (cdv : Value) (A : Around) (outer : List Env) (s : Shared) (H : Hp) (E : XK), RoomH n (A.deeper (envOfC x (defScope st) s.heap.objs.size f cdv)) →
      PSs (cxQ P w K mg base N x (defScope st) f cdv A outer s H E) (defBody st) (tS ⟨K, mg, E⟩ om (fs n))) : ∀ n, KnQ P w K mg base n x om (R n)
  | 0 => by
    obtain ⟨f, fd, F, hm, hbi⟩ := Dx.ex
    have no : ∀ vs H Q E, ¬ spF K mg om (R 0) vs H Q E := fun vs H Q E h => by
      obtain ⟨H0, ds, s, r, p⟩ := h
      rw [h0] at p
      exact p.bad
    exact ⟨f, fd, ps, ⟨fun vs H Q E h => (no vs H Q E h).elim, fun A outer s H args us vs Q E _ _ _ _ h => (no vs H Q E h).elim⟩, hm, F.kp, hbi⟩
  | n + 1 => by
    obtain ⟨f, fd, F, hm, hbi⟩ := Dx.ex
    exact ⟨f, fd, ps, fnQ_of F S (fn_len (hR n)) fun cdv A outer s H vs Q E hr h => ⟨_, hb n f hm cdv A outer s H E hr, fn_body (hR n) h⟩, hm, F.kp, hbi⟩
end
end Sk

namespace Sk
open PySem PySem.Spec PyProof.Rows L2
/-! ### for w in x, x a list that this def alone holds: if c: return e0; h = e -/
def foF (w h : Nat) (gc : Ev → Rs Bool) (f0 fe : Ev → Rs D) : List D → SEnv → Rs Fl
  | [], env => .ok (.nx env)
  | d :: ds, env => (gc (allV (env.set w (.sh d)))).bind fun b => if b = true then (f0 (allV (env.set w (.sh d)))).bind fun v => .ok (.rt v)
    else (fe (hidV (env.set w (.sh d)))).bind fun v => foF w h gc f0 fe ds ((env.set w (.sh d)).set h (.sh v))
def sFo (k w h : Nat) (gc : Ev → Rs Bool) (f0 fe : Ev → Rs D) : SEnv → Rs Fl := fun env => owL env[k]? fun ds => foF w h gc f0 fe ds env
section
variable {X : Cx} {E : XK} {c e0 : Expr} {st2 : Stmt} {gc : Ev → Rs Bool} {f0 fe : Ev → Rs D} {k w h : Nat} {tg iter : Expr} {p1 p2 pos : Pos}
theorem ss_fo (hp : PassesOwn (model X.prog X.w) X.A X.env X.xe) (hcm : X.calm = true) (hv : PE X iter (tVar k)) (hg : PG X tg (gName w)) (kw : k ≠ w) (kh : k ≠ h) (hc : SB X E c gc) (he0 : SE X E e0 f0) (h2 : PS X st2 (tAsg (tE (zOf X E) fe) (gName h)))
    (hs : ∀ x, foldedSetIterable iter X.env x = pure x := by intro _; rfl) : SS X E .e (.For tg iter [.If c [.Return (some e0) p1] [] p2, st2] [] pos) (sFo k w h gc f0 fe) := by
  have body : PSs X [.If c [.Return (some e0) p1] [] p2, st2] (tSeq (tIfS (tB (zOf X E) gc) (tRet (tE (zOf X E) f0)) tNext) (tAsg (tE (zOf X E) fe) (gName h))) := pss_cons (ps_if hc (pss_one (ps_ret he0)) pss_nil) (pss_one h2)
  refine PS.weak (ps_for hp hcm (pi_list hv) hg body hs) fun Dn σ H ⟨B0, B, H0, env, S, p⟩ => ?_
  unfold sFo owL at p
  split at p
  rotate_left
  · exact p.elim
  rename_i ds hd
  obtain ⟨a, h1, h3, h4, h5⟩ := S.ow k _ hd
  rcases h5 with ⟨es, vs, e1, e2, e3⟩ | ⟨ps, e1, _⟩
  rotate_left
  · cases e1
  cases e1
  refine ⟨.ref a, h1, a, rfl, ⟨vs, SqL.of e2⟩, ?_⟩
  refine ⟨fun t m σ3 H3 => t ≤ ds.length ∧ m = ds.length - t ∧ ∃ H0c envc, Stt X.K B0 B H0c H3 σ3 envc ∧ σ3[k]? = some (some (.ref a)) ∧ envc[k]? = some (.ow (.list ds)) ∧ PostS (zOf X E) .e B0 B (foF w h gc f0 fe (ds.drop t) envc) Dn,
    ⟨ds.length, Nat.zero_le _, by rw [Nat.sub_zero], H0, env, S, h1, hd, by rw [List.drop_zero]; exact p⟩, ?_⟩
  rintro t m σ3 H3 ⟨ht, rfl, H0c, envc, Sc, hσ, hk, pc⟩
  obtain ⟨a', g1, g2, g3, g4⟩ := Sc.ow k _ hk
  rw [hσ] at g1
  cases g1
  rcases g4 with ⟨es, us, z1, z2, z3⟩ | ⟨ps, z1, _⟩
  rotate_left
  · cases z1
  cases z1
  by_cases hlt : t < ds.length
  · have hlu : t < us.length := by rw [z3.length]; exact hlt
    refine .inr ⟨⟨us, us[t], SqL.of z2, by simp [hlu]⟩, fun σ4 H4 => ∃ H0d envd, Stt X.K B0 B H0d H4 σ4 envd ∧ σ4[k]? = some (some (.ref a)) ∧ envd[k]? = some (.ow (.list ds)) ∧ PostS (zOf X E) .e B0 B (foF w h gc f0 fe (ds.drop (t + 1)) envd) Dn,
      fun σ4 H4 ⟨H0d, envd, q1, q2, q3, q4⟩ => ⟨ds.length - (t + 1), by omega, hlt, rfl, H0d, envd, q1, q2, q3, q4⟩, fun x H4 hy => ?_⟩
    have hdr : ds.drop t = ds[t] :: ds.drop (t + 1) := List.drop_eq_getElem_cons hlt
    rw [hdr] at pc
    obtain ⟨rfl, hx⟩ := hy
    obtain ⟨v, hv2, rv⟩ := z3.get (List.getElem?_eq_getElem hlt)
    cases (hx us (SqL.of z2)).symm.trans hv2
    have S1 := Sc.set_sh w rv
    have s1k : (σ3.set w (some x))[k]? = some (some (.ref a)) := by rw [List.getElem?_set_ne (Ne.symm kw)]; exact hσ
    have e1k : (envc.set w (.sh ds[t]))[k]? = some (.ow (.list ds)) := by rw [List.getElem?_set_ne (Ne.symm kw)]; exact hk
    unfold foF at pc
    generalize envc.set w (.sh ds[t]) = env1 at S1 e1k pc
    show tB (zOf X E) gc (σ3.set w (some x)) H4 _
    generalize σ3.set w (some x) = σ1 at S1 s1k
    refine ⟨bor H0c H4 σ1 env1, allV env1, S1.bor_s, S1.allv, ?_⟩
    cases ec : gc (allV env1) with
    | bad => rw [ec] at pc; exact pc
    | exc y => rw [ec] at pc; exact pc.excs S1.x.b
    | ok b =>
      rw [ec] at pc
      intro H5 s5
      have S2 := S1.up s5
      cases b with
      | true =>
        rw [if_pos rfl]
        simp only [Rs.ok_bind, if_true] at pc
        refine ⟨bor H0c H5 σ1 env1, allV env1, S2.bor_s, S2.allv, ?_⟩
        cases ef : f0 (allV env1) with
        | bad => rw [ef] at pc; exact pc
        | exc y => rw [ef] at pc; exact pc.excs S2.x.b
        | ok d =>
          rw [ef] at pc
          intro u H0' H' y r
          exact pc u H0' H' (S2.frzAll.x.trans y) r
      | false =>
        rw [if_neg Bool.false_ne_true]
        simp only [Rs.ok_bind, Bool.false_eq_true, if_false] at pc
        refine ⟨H0c, hidV env1, S2.same, S2.hid, ?_⟩
        cases ef : fe (hidV env1) with
        | bad => rw [ef] at pc; exact pc
        | exc y => rw [ef] at pc; exact pc.excs S2.x.b
        | ok d =>
          rw [ef] at pc
          intro u H0' H' y r
          refine ⟨H0', env1.set h (.sh d), (S2.grow y).set_sh h r, ?_, ?_, pc⟩
          · rw [List.getElem?_set_ne (Ne.symm kh)]; exact s1k
          · rw [List.getElem?_set_ne (Ne.symm kh)]; exact e1k
  · have et : t = ds.length := by omega
    rw [et, List.drop_length] at pc
    exact .inl ⟨⟨us, SqL.of z2, by rw [z3.length]; omega⟩, pc σ3 H0c H3 Sc⟩
end
end Sk

namespace Sk
open PySem PySem.Spec PyProof.Rows L2
/-! ### a text read sign by sign: where the tree ends, the words on the way -/
def isLt (c : Nat) : Bool := decide (97 ≤ c ∧ c ≤ 122)
def wnd (x : List Nat) (s : Nat) : Nat := s + ((x.drop s).takeWhile isLt).length
def wrd (x : List Nat) (s : Nat) : List Nat := (x.drop s).takeWhile isLt
def endW : Nat → List Nat → Nat → Option (Nat × List (List Nat))
  | 0, _, _ => none
  | f + 1, x, a => if x[a]? = some 45 then some (a + 1, []) else if x[a]? = some 40 then
      (endW f x (a + 1)).bind fun l => if x[l.1]? = some 32 then if x[wnd x (l.1 + 1)]? = some 32 then
        (endW f x (wnd x (l.1 + 1) + 1)).bind fun r => if x[r.1]? = some 41 then some (r.1 + 1, l.2 ++ wrd x (l.1 + 1) :: r.2) else none
      else none else none else none
def ctO (x : List Nat) (a : Nat) : Nat := ((x.drop a).filter fun c => decide (c = 40)).length
def eStr (l : List Nat) : D := .str ⟨l.toArray⟩
def vStr (l : List Nat) : V := .str ⟨l.toArray⟩
def endD : Option (Nat × List (List Nat)) → D
  | some r => .tuple [.int r.1, .list (r.2.map eStr)]
  | none => .tuple [.int (-1), .list []]
def R__law_end (n : Nat) : List D → Rs D := fun ds => match ds with
  | [.str z, .int a] => if z.length ≤ 900 ∧ 0 ≤ a ∧ a ≤ z.length ∧ ctO z.cps.toList a.toNat < n then .ok (endD (endW n z.cps.toList a.toNat)) else .bad
  | _ => .bad
/-- all but p stays -/
def Off (p : Addr) (H H' : Hp) : Prop := ∀ b o, b ≠ p → H b = some o → H' b = some o
theorem Off.trans {p : Addr} {H H1 H2 : Hp} (a : Off p H H1) (b : Off p H1 H2) : Off p H H2 := fun c o n e => b c o n (a c o n e)
theorem Off.same {p : Addr} {H H' : Hp} (s : Same H H') : Off p H H' := fun b o _ e => s b o e
theorem Off.upd {p : Addr} {H : Hp} {o : HO} : Off p H (upd H p o) := fun b u n e => by rw [upd_ne n]; exact e
/-- the promise of _law_end(text, at, words) at level n -/
def spE (n : Nat) : Sp := fun vs H Q _ => ∃ (z : Str) (a : Nat) (p : Addr) (ws : List V), vs = [.str z, .int a, .ref p] ∧ H p = some (.lst ws) ∧ z.length ≤ 900 ∧ a ≤ z.length ∧ ws.length + (z.length - a) ≤ 100000 ∧ ctO z.cps.toList a < n ∧
  (∀ r H', endW n z.cps.toList a = some r → Off p H H' → H' p = some (.lst (ws ++ r.2.map vStr)) → Q (.int r.1) H') ∧
  ∀ H' us, endW n z.cps.toList a = none → Off p H H' → H' p = some (.lst us) → Q (.int (-1)) H'
structure KnE (P : Program) (w : World) (K : PySem.W.Frag) (mg : Str → Option Value) (base : Heap) (n : Nat) : Prop where
  ex : ∃ f fd ps, FnOk P w K mg base CX0 n f fd ps (spE n) ∧ mg "_law_end" = some (.ref f) ∧ PySem.W.keepIn K (.ref f) = true ∧ Binds K fd ps []
/-! if _law_end(text, 0, words) != len(text) or len(words) > 12: return False -/
def sEnd (i k : Nat) (r : List D → Rs D) : SEnv → Rs Fl := fun env => match env[i]?, env[k]? with
  | some (.sh (.str z)), some (.ow (.list [])) => (r [.str z, .int 0]).bind fun d => (match d with
    | .tuple [.int e, .list ds] => if e = z.length ∧ ds.length ≤ 12 then .ok (.nx (env.set k (.ow (.list ds)))) else .ok (.rt (.bool false))
    | _ => .bad)
  | _, _ => .bad
theorem rp_strs {K : PySem.W.Frag} {H : Hp} : ∀ l : List (List Nat), RpL K H (l.map eStr) (l.map vStr)
  | [] => rfl
  | x :: l => ⟨_, _, rfl, rfl, rp_strs l⟩
section
variable {X : Cx} {E : XK} {n i k : Nat} {et et2 ew ew2 : Expr} {j j2 j3 : Nat} {p1 p2 p3 p4 p5 p6 p7 p8 p9 p10 p11 p12 p13 p14 : Pos}
theorem ss_end (G : KnE X.prog X.w X.K X.mg X.base n) (hr : Room n X.A) (ik : i ≠ k) (h1 : PE X et (tVar i)) (h2 : PE X et2 (tVar i)) (h3 : PE X ew (tVar k)) (h4 : PE X ew2 (tVar k)) (hm : X.mg "len" = none) (hv : bootBuiltins "len" = some (.builtin "len")) (hg : Gl X "_law_end" := by rfl) (hgl : Gl X "len" := by rfl)
    (he1 : starEach [et, .Constant (.int 0) j p2, ew] X.env = (false, eval et X.env) :: starEach [.Constant (.int 0) j p2, ew] X.env := by rfl) (he2 : starEach [.Constant (.int 0) j p2, ew] X.env = (false, eval (.Constant (.int 0) j p2) X.env) :: starEach [ew] X.env := by rfl)
    (he3 : starEach [ew] X.env = (false, eval ew X.env) :: starEach [] X.env := by rfl) (he4 : starEach [et2] X.env = (false, eval et2 X.env) :: starEach [] X.env := by rfl) (he5 : starEach [ew2] X.env = (false, eval ew2 X.env) :: starEach [] X.env := by rfl)
    (hp3 : (backTo p3 (starEach [.Constant (.int 0) j p2, ew] X.env)).any (·.1) = false := by rfl) (hp5 : (backTo p5 (starEach [] X.env)).any (·.1) = false := by rfl) (hp8 : (backTo p8 (starEach [] X.env)).any (·.1) = false := by rfl)
    (hb1 : behindInMarks .NotEq (.Call (.Name "len" p4) [et2] [] p5) = false := by first | rfl | exact nomark _) (hb2 : behindInMarks .Gt (.Constant (.int 12) j2 p9) = false := by first | rfl | exact nomark _) :
    SS X E .e (.If (.BoolOp .Or [.Compare (.Call (.Name "_law_end" p1) [et, .Constant (.int 0) j p2, ew] [] p3) [.NotEq] [.Call (.Name "len" p4) [et2] [] p5] p6, .Compare (.Call (.Name "len" p7) [ew2] [] p8) [.Gt] [.Constant (.int 12) j2 p9] p10] p11)
      [.Return (some (.Constant (.bool false) j3 p12)) p13] [] p14) (sEnd i k (R__law_end n)) := by
  obtain ⟨f, fd, ps, F, hmf, hkf, hbf⟩ := G.ex
  have A1 : PA X [et, .Constant (.int 0) j p2, ew] (tCons (tVar i) (tCons (tC (.int 0)) (tCons (tVar k) tNil))) := pa_cons h1 (pa_cons pe_int (pa_cons h3 pa_nil he3) he2) he1
  have C1 := pe_call (E := E) F hr hg hmf hkf hbf .nil (pos := p3) (p := p1) pass0 A1 (by decide) he1 hp3
  have L1 := pe_callB ox_len hgl hm hv (pos := p5) (p := p4) (pa_cons h2 pa_nil he4) (by decide) (by decide) he4 hp5
  have L2 := pe_callB ox_len hgl hm hv (pos := p8) (p := p7) (pa_cons h4 pa_nil he5) (by decide) (by decide) he5 hp8
  have T1 := pt_cmpR (pos := p6) op_ne C1 L1 hb1
  have T2 := pt_cmpR (pos := p10) op_gt L2 (pe_int (X := X) (i := 12) (j := j2) (pos := p9)) hb2
  have T := PW.pt (pw_or (pos := p11) T1 (pw_or1 (pos := p11) T2))
  refine PS.weak (ps_if (pos := p14) T (pss_one (ps_ret (pos := p13) (pe_bl (X := X) (b := false) (j := j3) (pos := p12)))) pss_nil) fun Dn σ H ⟨B0, B, H0, env, S, p⟩ => ?_
  unfold sEnd at p
  split at p
  rotate_left
  · exact p.elim
  rename_i z hz hw
  obtain ⟨v, v1, v2⟩ := S.sh i _ hz
  cases (show v = .str z from v2)
  obtain ⟨a, w1, w2, w3, w4⟩ := S.ow k _ hw
  rcases w4 with ⟨es, us, z1, z2, z3⟩ | ⟨ps', z1, _⟩
  rotate_left
  · cases z1
  cases z1
  cases z3
  simp only [R__law_end] at p
  by_cases hc : z.length ≤ 900 ∧ (0 : Int) ≤ 0 ∧ (0 : Int) ≤ z.length ∧ ctO z.cps.toList (0 : Int).toNat < n
  rotate_left
  · rw [if_neg hc] at p; exact p.elim
  rw [if_pos hc] at p
  obtain ⟨c1, _, _, c4⟩ := hc
  have c4 : ctO z.cps.toList 0 < n := c4
  have zl : z.length ≤ sizeLine := Nat.le_trans c1 (by decide)
  refine ⟨_, v1, _, w1, z, 0, a, [], by simp, z2, c1, Nat.zero_le _, by simp; omega, c4, fun r H' er off hp => ?_, fun H' us er off hp => ?_⟩
  · rw [show (0 : Int).toNat = 0 from rfl] at p
    rw [er] at p
    simp only [Rs.ok_bind, endD] at p
    rw [List.nil_append] at hp
    -- the state with the words told
    have S2 : Stt X.K B0 B H0 H' σ (env.set k (.ow (.list (r.2.map eStr)))) := by
      have sm : Same H (fun b => if b = a then H a else H' b) := fun b o e => by
        show (if b = a then H a else H' b) = some o
        by_cases hb : b = a
        · rw [if_pos hb]; rw [hb] at e; exact e
        · rw [if_neg hb]; exact off b o hb e
      have e9 : upd (fun b => if b = a then H a else H' b) a (.lst (r.2.map vStr)) = H' := by
        funext b
        unfold upd
        by_cases hb : b = a
        · rw [if_pos hb, hb, hp]
        · rw [if_neg hb]
          exact if_neg hb
      have := (S.up sm).mut (d' := .list (r.2.map eStr)) (o := .lst (r.2.map vStr)) hw w1 (.inl ⟨_, _, rfl, upd_same, rp_strs _⟩)
      rw [e9] at this
      exact this
    refine ⟨_, v1, .inr ⟨z, rfl, zl, ?_⟩⟩
    refine ⟨rfl, _, rfl, ?_⟩
    by_cases hq : (r.1 : Int) = z.length
    · have hd : decide (V.int (r.1 : Int) = V.int (z.length : Int)) = true := by rw [hq]; exact decide_eq_true rfl
      rw [hd]
      simp only [Bool.not_true, Bool.false_eq_true, if_false]
      refine ⟨_, w1, .inl ⟨a, _, rfl, .inl (SqL.of hp), ?_⟩⟩
      refine ⟨_, _, rfl, rfl, _, rfl, ?_⟩
      rw [List.length_map]
      rw [hq] at p
      simp only [List.length_map, true_and] at p
      by_cases h12 : r.2.length ≤ 12
      · rw [if_pos h12] at p
        have hd2 : decide ((12 : Int) < ((r.2.length : Nat) : Int)) = false := decide_eq_false (by omega)
        rw [hd2]
        exact p σ H0 H' S2
      · rw [if_neg h12] at p
        have hd2 : decide ((12 : Int) < ((r.2.length : Nat) : Int)) = true := decide_eq_true (by omega)
        rw [hd2]
        exact p (.bl false) H0 H' S2.x rfl
    · have hd : decide (V.int (r.1 : Int) = V.int (z.length : Int)) = false := decide_eq_false fun y => hq (by injection y)
      rw [hd]
      rw [if_neg (fun y => hq y.1)] at p
      exact p (.bl false) H0 H' S2.x rfl
  · rw [show (0 : Int).toNat = 0 from rfl] at p
    rw [er] at p
    simp only [Rs.ok_bind, endD] at p
    have ne : ¬ (-1 : Int) = z.length := by omega
    rw [if_neg (fun y => ne y.1)] at p
    refine ⟨_, v1, .inr ⟨z, rfl, zl, ?_⟩⟩
    refine ⟨rfl, _, rfl, ?_⟩
    have hd : decide (V.int (-1) = V.int (z.length : Int)) = false := decide_eq_false fun y => ne (by injection y)
    rw [hd]
    refine p (.bl false) H0 H' ⟨S.x.a, fun b o e => ?_, fun b o e => ?_, S.x.d⟩ rfl
    · exact off b o (fun y => by rw [y, w3] at e; cases e) (S.x.b b o e)
    · exact off b o (fun y => by rw [y, w2] at e; cases e) (S.x.c b o e)
end
/-! ### text.replace(a + "..", b + "..") -/
def repA (y a : Str) : Bool := decide (0 < a.length ∧ 0 < y.length ∧ a.length + y.length ≤ 100000)
def repB (x a b : Str) : Bool := (!(a == b)) && decide (x.length + (x.length + 1) * b.length ≤ 10000000)
def eRepA (y z : Str) (fo fa fb : Ev → Rs D) : Ev → Rs D := fun ev => (fo ev).bind fun x => strB x fun x => (fa ev).bind fun a => strB a fun a => if repA y a = true then
  (fb ev).bind fun b => strB b fun b => if repA z b = true ∧ repB x (a ++ y) (b ++ z) = true then .ok (.str (Txt.replace x (a ++ y) (b ++ z))) else .bad else .bad
section
variable {prog : Program} {w : World} {A : Around} {E : Value → Shared → Prop} {s : Shared} {x y : Str} {t u : Tok} {Q : Value → Shared → Prop}
theorem add_tok (hx : 0 < x.length) (hy : 0 < y.length) (hz : x.length + y.length ≤ sizeLine) (h : Q (.str (x ++ y) s.toks) { s with toks := s.toks + 1 }) : wpAny (model prog w) A (binaryOp .Add (.str x t) (.str y u)) Q E s := by
  refine PySem.P.add_str ?_
  rw [if_neg (by simp; omega), if_neg (by simp; omega)]
  have e : (x ++ y).length = x.length + y.length := by
    show (x.cps ++ y.cps).size = _
    rw [Array.size_append]; rfl
  exact ⟨by rw [e]; exact hz, h⟩
end
section
variable {X : Cx} {E : XK} {o a b : Expr} {fo fa fb : Ev → Rs D} {to ta tb : TE} {y z : Str} {j k : Nat} {c0 c1 p1 p2 apos pos : Pos}
def tRepA (y z : Str) (to ta tb : TE) : TE := fun σ H Q => to σ H fun v H1 => ∃ x, v = .str x ∧ ta σ H1 fun v1 H2 => ∃ a, v1 = .str a ∧ (0 < a.length ∧ 0 < y.length ∧ a.length + y.length ≤ sizeLine) ∧ tb σ H2 fun v2 H3 => ∃ b, v2 = .str b ∧
  (0 < b.length ∧ 0 < z.length ∧ b.length + z.length ≤ sizeLine) ∧ ((a ++ y) == (b ++ z)) = false ∧ x.length + (x.length + 1) * (b ++ z).length ≤ 16777216 ∧ Q (.str (Txt.replace x (a ++ y) (b ++ z))) H3
theorem pe_repA (ho : PE X o to) (ha : PE X a ta) (hb : PE X b tb)
    (hst : starEach [.BinOp a .Add (.Constant (.str y) j c0) p1, .BinOp b .Add (.Constant (.str z) k c1) p2] X.env = [(false, eval (.BinOp a .Add (.Constant (.str y) j c0) p1) X.env), (false, eval (.BinOp b .Add (.Constant (.str z) k c1) p2) X.env)] := by rfl)
    (hbase : attributeBase o "replace" X.env (eval o X.env) = eval o X.env := by rfl) (hline : (apos.endLine == pos.line) = true := by rfl) :
    PE X (.Call (.Attribute o "replace" apos) [.BinOp a .Add (.Constant (.str y) j c0) p1, .BinOp b .Add (.Constant (.str z) k c1) p2] [] pos) (tRepA y z to ta tb) := by
  constructor
  intro pins s σ H Q I h
  refine PySem.Call_method2 hbase hst hline (thn (ho.run pins s σ H _ I h) fun v s1 hv => ?_)
  obtain ⟨v', H1, I1, r1, x, e1, q1⟩ := hv
  subst e1
  obtain ⟨tx, e2⟩ := r1
  subst e2
  refine ⟨"str", _, PySem.F.plainAttrs_str, PySem.F.slot_str_replace, PySem.F.type_str_replace, typeIs_str _ _ _, (fun _ e => nomatch e), ?_⟩
  refine Calls.callWith_builtin rfl (Calls.evalArgs_plain (Calls.spliced_cons (wpAny_BinOp ?_)))
  refine thn (ha.run pins s1 σ H1 _ I1 q1) fun u2 s2 hu => ?_
  obtain ⟨v2, H2, I2, r2, a', e3, ⟨n1, n2, n3⟩, q2⟩ := hu
  subst e3
  obtain ⟨ta', e4⟩ := r2
  subst e4
  refine Calls.Constant_str (add_tok n1 n2 n3 ?_)
  refine Calls.spliced_cons (wpAny_BinOp ?_)
  have I3 : Inv X pins σ H2 { s2 with toks := s2.toks + 1 + 1 } := I2.tok _
  refine wpAny_mono (PySem.wpAny_toks (hb.run pins _ σ H2 _ I3 q2)) (fun u4 s4 hu4 => ?_) fun _ _ w => w.2
  obtain ⟨hk, v4, H4, I4, r4, b', e5, ⟨m1, m2, m3⟩, hne, hbd, q4⟩ := hu4
  subst e5
  obtain ⟨tb', e6⟩ := r4
  subst e6
  have hk : s2.toks + 1 + 1 ≤ s4.toks := hk
  refine Calls.Constant_str (add_tok m1 m2 m3 (Calls.spliced_nil ?_))
  refine PySem.SC.replace ?_ ?_ ?_ hne hbd fun t' k' => ⟨.str (Txt.replace x (a' ++ y) (b' ++ z)), H4, I4.tok _, ⟨t', rfl⟩, q4⟩
  · show s2.toks + 1 ≠ 0
    omega
  · show s4.toks + 1 ≠ 0
    omega
  · show s2.toks + 1 ≠ s4.toks + 1
    omega
theorem se_repA (ho : SE X E o fo) (ha : SE X E a fa) (hb : SE X E b fb)
    (hst : starEach [.BinOp a .Add (.Constant (.str y) j c0) p1, .BinOp b .Add (.Constant (.str z) k c1) p2] X.env = [(false, eval (.BinOp a .Add (.Constant (.str y) j c0) p1) X.env), (false, eval (.BinOp b .Add (.Constant (.str z) k c1) p2) X.env)] := by rfl)
    (hbase : attributeBase o "replace" X.env (eval o X.env) = eval o X.env := by rfl) (hline : (apos.endLine == pos.line) = true := by rfl) :
    SE X E (.Call (.Attribute o "replace" apos) [.BinOp a .Add (.Constant (.str y) j c0) p1, .BinOp b .Add (.Constant (.str z) k c1) p2] [] pos) (eRepA y z fo fa fb) := by
  refine PE.weak (pe_repA ho ha hb hst hbase hline) fun σ H Q q => ?_
  obtain ⟨H0, ev, s, rv, p⟩ := q
  refine ⟨H0, ev, s, rv, ?_⟩
  unfold eRepA at p
  cases eo : fo ev with
  | bad => rw [eo] at p; exact p
  | exc x => rw [eo] at p; exact p
  | ok d =>
    rw [eo] at p
    intro v H1 H' x1 r1
    replace p := p.step x1
    simp only [Rs.ok_bind, strB] at p
    cases d with
    | str xs =>
      refine ⟨xs, r1, H1, ev, x1.c, rv.mono x1.a, ?_⟩
      cases ea : fa ev with
      | bad => rw [ea] at p; exact p
      | exc x => rw [ea] at p; exact p
      | ok d2 =>
        rw [ea] at p
        intro v2 H2 H2' x2 r2
        replace p := p.step x2
        simp only [Rs.ok_bind] at p
        cases d2 with
        | str as =>
          simp only at p
          by_cases c1 : repA y as = true
          · rw [if_pos c1] at p
            have d1 := of_decide_eq_true c1
            refine ⟨as, r2, ⟨d1.1, d1.2.1, sz5 d1.2.2⟩, H2, ev, x2.c, rv.mono (x1.a.trans x2.a), ?_⟩
            cases eb : fb ev with
            | bad => rw [eb] at p; exact p
            | exc x => rw [eb] at p; exact p
            | ok d3 =>
              rw [eb] at p
              intro v3 H3 H3' x3 r3
              replace p := p.step x3
              simp only [Rs.ok_bind] at p
              cases d3 with
              | str bs =>
                simp only at p
                by_cases c2 : repA z bs = true ∧ repB xs (as ++ y) (bs ++ z) = true
                · rw [if_pos c2] at p
                  have d2 := of_decide_eq_true c2.1
                  have c3 := c2.2
                  unfold repB at c3
                  rw [Bool.and_eq_true, Bool.not_eq_true'] at c3
                  have d3 := of_decide_eq_true c3.2
                  exact ⟨bs, r3, ⟨d2.1, d2.2.1, sz5 d2.2.2⟩, c3.1, by omega, PostE.now (d := .str _) x3.c p rfl⟩
                · rw [if_neg c2] at p; exact p.elim
              | _ => exact p.elim
          · rw [if_neg c1] at p; exact p.elim
        | _ => exact p.elim
    | _ => exact p.elim
end
end Sk

namespace Sk
open PySem PySem.Spec PyProof.Rows L2
def N_row_of : List Str := ["tree"]
def F_row_of (r_row_of : List D → Rs D) : SEnv → Rs Fl :=
  (sSq (sIf (bE (e2 opIs (eV 0) (eC .none))) (sRt (eA mkL aN)) sNx)
  (sRt (e2 opCat (e2 opCat (eA r_row_of (aC (e2 opIx (eV 0) (eC (.int 1))) aN)) (eA mkL (aC (e2 opIx (eV 0) (eC (.int 0))) aN))) (eA r_row_of (aC (e2 opIx (eV 0) (eC (.int 2))) aN)))))
def R_row_of : Nat → List D → Rs D
  | 0 => fun _ => .bad
  | n + 1 => fnOf 1 1 .o (F_row_of (R_row_of n))
theorem S_row_of (n : Nat) (ds : List D) : R_row_of (n + 1) ds = fnOf 1 1 .o (F_row_of (R_row_of n)) ds := rfl
def N__law_cell_at : List Str := ["script", "k"]
def F__law_cell_at : SEnv → Rs Fl :=
  (sSq (sIf (bE (e2 opLt (eV 1) (eA opLen (aC (eV 0) aN)))) (sRt (e2 opIx (eV 0) (eV 1))) sNx)
  (sRt (eC (.int 0))))
def R__law_cell_at : Nat → List D → Rs D
  | 0 => fun _ => .bad
  | n + 1 => fnOf 2 2 .e (F__law_cell_at)
theorem S__law_cell_at (n : Nat) (ds : List D) : R__law_cell_at (n + 1) ds = fnOf 2 2 .e (F__law_cell_at) ds := rfl
def N__law_mix : List Str := ["cell", "k", "seed"]
def F__law_mix : SEnv → Rs Fl :=
  (sSq (sAs 2 (e2 opMod (e2 opAdd (e2 opAdd (e2 opMul (eV 0) (eC (.int 48271))) (e2 opMul (eC (.int 104729)) (eV 1))) (eC (.int 11))) (eC (.int 2147483647))))
  (sSq (sAs 2 (e2 opMod (e2 opAdd (e2 opAdd (e2 opMul (eV 2) (eV 2)) (e2 opMul (eC (.int 7919)) (eV 1))) (eC (.int 5))) (eC (.int 2147483629))))
  (sRt (e2 opMod (e2 opMul (eV 2) (eV 2)) (eC (.int 2147483587))))))
def R__law_mix : Nat → List D → Rs D
  | 0 => fun _ => .bad
  | n + 1 => fnOf 3 2 .e (F__law_mix)
theorem S__law_mix (n : Nat) (ds : List D) : R__law_mix (n + 1) ds = fnOf 3 2 .e (F__law_mix) ds := rfl
def N__law_many : List Str := ["cell", "most"]
def F__law_many : SEnv → Rs Fl :=
  (sSq (sIf (bE (e2 opEq (e2 opMod (e2 opDiv (eV 0) (eC (.int 7))) (eC (.int 4))) (eC (.int 1)))) (sRt (e2 opMod (e2 opDiv (eV 0) (eC (.int 28))) (e2 opAdd (eV 1) (eC (.int 1))))) sNx)
  (sRt (e2 opMod (eV 0) (eA opMin (aC (eC (.int 7)) (aC (e2 opAdd (eV 1) (eC (.int 1))) aN))))))
def R__law_many : Nat → List D → Rs D
  | 0 => fun _ => .bad
  | n + 1 => fnOf 2 2 .e (F__law_many)
theorem S__law_many (n : Nat) (ds : List D) : R__law_many (n + 1) ds = fnOf 2 2 .e (F__law_many) ds := rfl
def N__law_keys : List Str := ["script", "many", "cell", "keys", "k", "tail"]
def B1__law_keys (r__law_cell_at : List D → Rs D) : SEnv → Rs Fl :=
  (sSq (sAs 5 (eSl opSlS (eC (.str "dcbazyx")) oN (oS (e2 opMod (eA r__law_cell_at (aC (eV 0) (aC (e2 opAdd (eC (.int 29)) (eV 4)) aN))) (eC (.int 5))))))
  (sAp 3 (e2 opAdd (e2 opAdd (eSl opSlS (eC (.str "abzm")) oN (oS (e2 opMod (eV 2) (eC (.int 4))))) (e2 opIx (eC (.str "bdfhjlnprtvx")) (eV 4))) (eV 5))))
theorem x_B1__law_keys (r__law_cell_at : List D → Rs D) (env : SEnv) : B1__law_keys r__law_cell_at env =
  (sSq (sAs 5 (eSl opSlS (eC (.str "dcbazyx")) oN (oS (e2 opMod (eA r__law_cell_at (aC (eV 0) (aC (e2 opAdd (eC (.int 29)) (eV 4)) aN))) (eC (.int 5))))))
  (sAp 3 (e2 opAdd (e2 opAdd (eSl opSlS (eC (.str "abzm")) oN (oS (e2 opMod (eV 2) (eC (.int 4))))) (e2 opIx (eC (.str "bdfhjlnprtvx")) (eV 4))) (eV 5)))) env := rfl
def F__law_keys (r__law_cell_at : List D → Rs D) : SEnv → Rs Fl :=
  (sSq (sAs 2 (eA r__law_cell_at (aC (eV 0) (aC (eC (.int 28)) aN))))
  (sSq (sIf (bAnd (bE (e2 opEq (e2 opMod (e2 opDiv (eV 2) (eC (.int 4))) (eC (.int 4))) (eC (.int 1)))) (bE (e2 opLe (eV 1) (eC (.int 8))))) (sRt (eLc (zR1 (eV 1)) [4] 4 yesB (eSl opSlS (e2 opRep (eC (.str "cab")) (eC (.int 3))) oN (oS (e2 opAdd (eV 4) (eC (.int 1))))))) sNx)
  (sSq (sNw 3 (eA mkL aN))
  (sSq (sFor (zR1 (eV 1)) (gS1 4) (B1__law_keys r__law_cell_at))
  (sRtV 3)))))
def R__law_keys : Nat → List D → Rs D
  | 0 => fun _ => .bad
  | n + 1 => fnOf 6 2 .o (F__law_keys (R__law_cell_at n))
theorem S__law_keys (n : Nat) (ds : List D) : R__law_keys (n + 1) ds = fnOf 6 2 .o (F__law_keys (R__law_cell_at n)) ds := rfl
def N__law_tree : List Str := ["keys", "cell", "first", "last", "place"]
def F__law_tree (r__law_tree : List D → Rs D) (r__law_mix : List D → Rs D) : SEnv → Rs Fl :=
  (sSq (sIf (bE (e2 opEq (eV 2) (eV 3))) (sRt (eC .none)) sNx)
  (sSq (sAs 4 (e2 opAdd (eV 2) (e2 opMod (e2 opDiv (eA r__law_mix (aC (eV 1) (aC (e2 opAdd (e2 opMul (eC (.int 13)) (eV 2)) (eV 3)) aN))) (eC (.int 7))) (e2 opSub (eV 3) (eV 2)))))
  (sSq (sIf (bE (e2 opEq (e2 opMod (eV 1) (eC (.int 5))) (eC (.int 1)))) (sAs 4 (eV 2)) sNx)
  (sSq (sIf (bE (e2 opEq (e2 opMod (eV 1) (eC (.int 5))) (eC (.int 2)))) (sAs 4 (e2 opSub (eV 3) (eC (.int 1)))) sNx)
  (sRt (eA mkT (aC (e2 opIx (eV 0) (eV 4)) (aC (eA r__law_tree (aC (eV 0) (aC (eV 1) (aC (eV 2) (aC (eV 4) aN))))) (aC (eA r__law_tree (aC (eV 0) (aC (eV 1) (aC (e2 opAdd (eV 4) (eC (.int 1))) (aC (eV 3) aN))))) aN)))))))))
def R__law_tree : Nat → List D → Rs D
  | 0 => fun _ => .bad
  | n + 1 => fnOf 5 4 .e (F__law_tree (R__law_tree n) (R__law_mix n))
theorem S__law_tree (n : Nat) (ds : List D) : R__law_tree (n + 1) ds = fnOf 5 4 .e (F__law_tree (R__law_tree n) (R__law_mix n)) ds := rfl
def N__law_mirrored : List Str := ["tree"]
def F__law_mirrored (r__law_mirrored : List D → Rs D) : SEnv → Rs Fl :=
  (sSq (sIf (bE (e2 opIs (eV 0) (eC .none))) (sRt (eC .none)) sNx)
  (sRt (eA mkT (aC (e2 opIx (eV 0) (eC (.int 0))) (aC (eA r__law_mirrored (aC (e2 opIx (eV 0) (eC (.int 2))) aN)) (aC (eA r__law_mirrored (aC (e2 opIx (eV 0) (eC (.int 1))) aN)) aN))))))
def R__law_mirrored : Nat → List D → Rs D
  | 0 => fun _ => .bad
  | n + 1 => fnOf 1 1 .e (F__law_mirrored (R__law_mirrored n))
theorem S__law_mirrored (n : Nat) (ds : List D) : R__law_mirrored (n + 1) ds = fnOf 1 1 .e (F__law_mirrored (R__law_mirrored n)) ds := rfl
def N_law_k01 : List Str := ["script", "many", "keys", "tree", "turn", "found", "mirrored", "word"]
def B1_law_k01 (r__law_many : List D → Rs D) (r__law_keys : List D → Rs D) (r__law_tree : List D → Rs D) (r__law_mirrored : List D → Rs D) (r__law_cell_at : List D → Rs D) (r_row_of : List D → Rs D) : SEnv → Rs Fl :=
  (sSq (sNw 5 (eA r_row_of (aC (eV 3) aN)))
  (sSq (sIf (bOr (bNot (bE (e1 (opIsi "list") (eV 5)))) (bOr (bNot (bE (eA opAll (aC (eLc (zLst (eV 5)) [7] 7 yesB (e1 (opIsi "str") (eV 7))) aN)))) (bE (e2 opNe (eV 5) (eV 2))))) (sRt (eC (.bool false))) sNx)
  (sAp 5 (eC (.str "x")))))
theorem x_B1_law_k01 (r__law_many : List D → Rs D) (r__law_keys : List D → Rs D) (r__law_tree : List D → Rs D) (r__law_mirrored : List D → Rs D) (r__law_cell_at : List D → Rs D) (r_row_of : List D → Rs D) (env : SEnv) : B1_law_k01 r__law_many r__law_keys r__law_tree r__law_mirrored r__law_cell_at r_row_of env =
  (sSq (sNw 5 (eA r_row_of (aC (eV 3) aN)))
  (sSq (sIf (bOr (bNot (bE (e1 (opIsi "list") (eV 5)))) (bOr (bNot (bE (eA opAll (aC (eLc (zLst (eV 5)) [7] 7 yesB (e1 (opIsi "str") (eV 7))) aN)))) (bE (e2 opNe (eV 5) (eV 2))))) (sRt (eC (.bool false))) sNx)
  (sAp 5 (eC (.str "x"))))) env := rfl
def F_law_k01 (r__law_many : List D → Rs D) (r__law_keys : List D → Rs D) (r__law_tree : List D → Rs D) (r__law_mirrored : List D → Rs D) (r__law_cell_at : List D → Rs D) (r_row_of : List D → Rs D) : SEnv → Rs Fl :=
  (sSq (sAs 1 (eA r__law_many (aC (eA r__law_cell_at (aC (eV 0) (aC (eC (.int 0)) aN))) (aC (eC (.int 12)) aN))))
  (sSq (sAs 2 (eA r__law_keys (aC (eV 0) (aC (eV 1) aN))))
  (sSq (sAs 3 (eA r__law_tree (aC (eV 2) (aC (eA r__law_cell_at (aC (eV 0) (aC (eC (.int 42)) aN))) (aC (eC (.int 0)) (aC (eV 1) aN))))))
  (sSq (sFor (zR1 (eC (.int 2))) (gS1 4) (B1_law_k01 r__law_many r__law_keys r__law_tree r__law_mirrored r__law_cell_at r_row_of))
  (sSq (sAs 6 (eA r__law_mirrored (aC (eV 3) aN)))
  (sSq (sIf (bE (e2 opNe (eA r_row_of (aC (eV 6) aN)) (e1 opRev (eV 2)))) (sRt (eC (.bool false))) sNx)
  (sSq (sIf (bE (e2 opGt (eV 1) (eC (.int 9)))) (sRt (e2 opEq (eA r_row_of (aC (eC .none) aN)) (eA mkL aN))) sNx)
  (sRt (e2 opEq (eA r_row_of (aC (eA mkT (aC (eC (.str "m")) (aC (eV 6) (aC (eV 3) aN)))) aN)) (e2 opCat (e2 opCat (e1 opRev (eV 2)) (eA mkL (aC (eC (.str "m")) aN))) (eV 2)))))))))))
def R_law_k01 : Nat → List D → Rs D
  | 0 => fun _ => .bad
  | n + 1 => fnOf 8 1 .e (F_law_k01 (R__law_many n) (R__law_keys n) (R__law_tree n) (R__law_mirrored n) (R__law_cell_at n) (R_row_of n))
theorem S_law_k01 (n : Nat) (ds : List D) : R_law_k01 (n + 1) ds = fnOf 8 1 .e (F_law_k01 (R__law_many n) (R__law_keys n) (R__law_tree n) (R__law_mirrored n) (R__law_cell_at n) (R_row_of n)) ds := rfl
def N_is_word : List Str := ["text", "sign"]
def F_is_word : SEnv → Rs Fl :=
  (sSq (sIf (bNot (bE (eCh opLe opLe (eC (.int 1)) (eA opLen (aC (eV 0) aN)) (eC (.int 8))))) (sRt (eC (.bool false))) sNx)
  (sRt (eA opAll (aC (eLc (zStr (eV 0)) [1] 1 yesB (e2 opIn (eV 1) (eC (.str "abcdefghijklmnopqrstuvwxyz")))) aN))))
def R_is_word : Nat → List D → Rs D
  | 0 => fun _ => .bad
  | n + 1 => fnOf 2 1 .e (F_is_word)
theorem S_is_word (n : Nat) (ds : List D) : R_is_word (n + 1) ds = fnOf 2 1 .e (F_is_word) ds := rfl
def N_are_keys : List Str := ["keys", "k", "key"]
def F_are_keys (r_is_word : List D → Rs D) : SEnv → Rs Fl :=
  (sSq (sIf (bOr (bE (e2 opGt (eA opLen (aC (eV 0) aN)) (eC (.int 12)))) (bNot (bE (eA opAll (aC (eLc (zLst (eV 0)) [2] 2 yesB (eA r_is_word (aC (eV 2) aN))) aN))))) (sRt (eC (.bool false))) sNx)
  (sRt (eA opAll (aC (eLc (zR2 (eC (.int 1)) (eA opLen (aC (eV 0) aN))) [1] 1 yesB (e2 opLt (e2 opIx (eV 0) (e2 opSub (eV 1) (eC (.int 1)))) (e2 opIx (eV 0) (eV 1)))) aN))))
def R_are_keys : Nat → List D → Rs D
  | 0 => fun _ => .bad
  | n + 1 => fnOf 3 1 .e (F_are_keys (R_is_word n))
theorem S_are_keys (n : Nat) (ds : List D) : R_are_keys (n + 1) ds = fnOf 3 1 .e (F_are_keys (R_is_word n)) ds := rfl
def N_ask_keys : List Str := ["keys"]
def F_ask_keys (r_are_keys : List D → Rs D) : SEnv → Rs Fl :=
  (sIf (bNot (bE (eA r_are_keys (aC (eV 0) aN)))) (sRaise "NoKeys") sNx)
def R_ask_keys : Nat → List D → Rs D
  | 0 => fun _ => .bad
  | n + 1 => fnOf 1 1 .e (F_ask_keys (R_are_keys n))
theorem S_ask_keys (n : Nat) (ds : List D) : R_ask_keys (n + 1) ds = fnOf 1 1 .e (F_ask_keys (R_are_keys n)) ds := rfl
def N_ask_tree : List Str := ["keys", "tree"]
def F_ask_tree (r_row_of : List D → Rs D) : SEnv → Rs Fl :=
  (sIf (bE (e2 opNe (eA r_row_of (aC (eV 1) aN)) (eA opList (aC (eV 0) aN)))) (sRaise "NoTree") sNx)
def R_ask_tree : Nat → List D → Rs D
  | 0 => fun _ => .bad
  | n + 1 => fnOf 2 2 .e (F_ask_tree (R_row_of n))
theorem S_ask_tree (n : Nat) (ds : List D) : R_ask_tree (n + 1) ds = fnOf 2 2 .e (F_ask_tree (R_row_of n)) ds := rfl
def N_sought : List Str := ["tree", "word", "steps"]
def B1_sought : SEnv → Rs Fl :=
  (sSq (sAs 2 (e2 opAdd (eV 2) (eC (.int 1))))
  (sSq (sIf (bE (e2 opEq (e2 opIx (eV 0) (eC (.int 0))) (eV 1))) (sRt (eA mkT (aC (eV 2) (aC (eC (.bool true)) aN)))) sNx)
  (sIf (bE (e2 opLt (eV 1) (e2 opIx (eV 0) (eC (.int 0))))) (sAs 0 (e2 opIx (eV 0) (eC (.int 1)))) (sAs 0 (e2 opIx (eV 0) (eC (.int 2)))))))
theorem x_B1_sought (env : SEnv) : B1_sought env =
  (sSq (sAs 2 (e2 opAdd (eV 2) (eC (.int 1))))
  (sSq (sIf (bE (e2 opEq (e2 opIx (eV 0) (eC (.int 0))) (eV 1))) (sRt (eA mkT (aC (eV 2) (aC (eC (.bool true)) aN)))) sNx)
  (sIf (bE (e2 opLt (eV 1) (e2 opIx (eV 0) (eC (.int 0))))) (sAs 0 (e2 opIx (eV 0) (eC (.int 1)))) (sAs 0 (e2 opIx (eV 0) (eC (.int 2))))))) env := rfl
def F_sought : SEnv → Rs Fl :=
  (sSq (sAs 2 (eC (.int 0)))
  (sSq (whileN (bE (e2 opIsN (eV 0) (eC .none))) (B1_sought) 1000)
  (sRt (eA mkT (aC (eV 2) (aC (eC (.bool false)) aN))))))
def R_sought : Nat → List D → Rs D
  | 0 => fun _ => .bad
  | n + 1 => fnOf 3 2 .e (F_sought)
theorem S_sought (n : Nat) (ds : List D) : R_sought (n + 1) ds = fnOf 3 2 .e (F_sought) ds := rfl
def N_seek : List Str := ["keys", "tree", "word", "found", "key"]
def F_seek (r_ask_keys : List D → Rs D) (r_ask_tree : List D → Rs D) (r_sought : List D → Rs D) : SEnv → Rs Fl :=
  (sSq (sEx (eA r_ask_keys (aC (eV 0) aN)))
  (sSq (sEx (eA r_ask_tree (aC (eV 0) (aC (eV 1) aN))))
  (sSq (sAs 3 (eA r_sought (aC (eV 1) (aC (eV 2) aN))))
  (sSq (sIf (bE (e2 opIx (eV 3) (eC (.int 1)))) (sRt (eA mkT (aC (eC (.str "key")) (aC (e2 opIx (eV 3) (eC (.int 0))) aN)))) sNx)
  (sRt (eA mkT (aC (eC (.str "gap")) (aC (eA opLen (aC (eLc (zLst (eV 0)) [4] 4 (bE (e2 opLt (eV 4) (eV 2))) (eV 4)) aN)) (aC (e2 opIx (eV 3) (eC (.int 0))) aN)))))))))
def R_seek : Nat → List D → Rs D
  | 0 => fun _ => .bad
  | n + 1 => fnOf 5 3 .e (F_seek (R_ask_keys n) (R_ask_tree n) (R_sought n))
theorem S_seek (n : Nat) (ds : List D) : R_seek (n + 1) ds = fnOf 5 3 .e (F_seek (R_ask_keys n) (R_ask_tree n) (R_sought n)) ds := rfl
def N__law_whole : List Str := ["found"]
def F__law_whole : SEnv → Rs Fl :=
  (sRt (eAnd (e1 (opIsi "int") (eV 0)) (eNot (e1 (opIsi "bool") (eV 0)))))
def R__law_whole : Nat → List D → Rs D
  | 0 => fun _ => .bad
  | n + 1 => fnOf 1 1 .e (F__law_whole)
theorem S__law_whole (n : Nat) (ds : List D) : R__law_whole (n + 1) ds = fnOf 1 1 .e (F__law_whole) ds := rfl
def N__law_steps : List Str := ["tree", "word", "steps"]
def B1__law_steps : SEnv → Rs Fl :=
  (sSq (sAs 2 (e2 opAdd (eV 2) (eC (.int 1))))
  (sSq (sIf (bE (e2 opEq (e2 opIx (eV 0) (eC (.int 0))) (eV 1))) (sRt (eV 2)) sNx)
  (sAs 0 (e2 opIx (eV 0) (e2 opAdd (eC (.int 1)) (eA opInt (aC (e2 opGt (eV 1) (e2 opIx (eV 0) (eC (.int 0)))) aN)))))))
theorem x_B1__law_steps (env : SEnv) : B1__law_steps env =
  (sSq (sAs 2 (e2 opAdd (eV 2) (eC (.int 1))))
  (sSq (sIf (bE (e2 opEq (e2 opIx (eV 0) (eC (.int 0))) (eV 1))) (sRt (eV 2)) sNx)
  (sAs 0 (e2 opIx (eV 0) (e2 opAdd (eC (.int 1)) (eA opInt (aC (e2 opGt (eV 1) (e2 opIx (eV 0) (eC (.int 0)))) aN))))))) env := rfl
def F__law_steps : SEnv → Rs Fl :=
  (sSq (sAs 2 (eC (.int 0)))
  (sSq (whileN (bE (e2 opIsN (eV 0) (eC .none))) (B1__law_steps) 1000)
  (sRt (eV 2))))
def R__law_steps : Nat → List D → Rs D
  | 0 => fun _ => .bad
  | n + 1 => fnOf 3 2 .e (F__law_steps)
theorem S__law_steps (n : Nat) (ds : List D) : R__law_steps (n + 1) ds = fnOf 3 2 .e (F__law_steps) ds := rfl
def N__law_words : List Str := ["script", "keys", "found", "k", "cell", "word", "j"]
def B1__law_words (r__law_cell_at : List D → Rs D) (r__law_mix : List D → Rs D) : SEnv → Rs Fl :=
  (sSq (sAs 4 (eA r__law_cell_at (aC (eV 0) (aC (e2 opAdd (eC (.int 43)) (eV 3)) aN))))
  (sSq (sAs 5 (eJoin (eC (.str "")) (aC (eLc (zR1 (e2 opAdd (eC (.int 1)) (e2 opMod (eV 4) (eC (.int 8))))) [6] 6 yesB (e2 opIx (eC (.str "abcxyzbd")) (e2 opMod (e2 opDiv (eA r__law_mix (aC (eV 4) (aC (eV 6) aN))) (eC (.int 7))) (eC (.int 8))))) aN)))
  (sSq (sIf (bAnd (bE (e2 opEq (e2 opMod (e2 opDiv (eV 4) (eC (.int 8))) (eC (.int 3))) (eC (.int 1)))) (bE (e2 opGt (eA opLen (aC (eV 1) aN)) (eC (.int 0))))) (sAs 5 (eSl opSlS (e2 opAdd (e2 opIx (eV 1) (e2 opMod (e2 opDiv (eV 4) (eC (.int 24))) (eA opLen (aC (eV 1) aN)))) (eC (.str "am"))) oN (oS (eC (.int 8))))) sNx)
  (sSq (sIf (bAnd (bE (e2 opEq (e2 opMod (e2 opDiv (eV 4) (eC (.int 8))) (eC (.int 3))) (eC (.int 2)))) (bE (e2 opGt (eA opLen (aC (eV 1) aN)) (eC (.int 0))))) (sAs 5 (eSl opSlS (e2 opIx (eV 1) (e2 opMod (e2 opDiv (eV 4) (eC (.int 24))) (eA opLen (aC (eV 1) aN)))) oN (oS (e2 opAdd (eC (.int 1)) (e2 opMod (e2 opDiv (eV 4) (eC (.int 300))) (eC (.int 7))))))) sNx)
  (sAp 2 (eV 5))))))
theorem x_B1__law_words (r__law_cell_at : List D → Rs D) (r__law_mix : List D → Rs D) (env : SEnv) : B1__law_words r__law_cell_at r__law_mix env =
  (sSq (sAs 4 (eA r__law_cell_at (aC (eV 0) (aC (e2 opAdd (eC (.int 43)) (eV 3)) aN))))
  (sSq (sAs 5 (eJoin (eC (.str "")) (aC (eLc (zR1 (e2 opAdd (eC (.int 1)) (e2 opMod (eV 4) (eC (.int 8))))) [6] 6 yesB (e2 opIx (eC (.str "abcxyzbd")) (e2 opMod (e2 opDiv (eA r__law_mix (aC (eV 4) (aC (eV 6) aN))) (eC (.int 7))) (eC (.int 8))))) aN)))
  (sSq (sIf (bAnd (bE (e2 opEq (e2 opMod (e2 opDiv (eV 4) (eC (.int 8))) (eC (.int 3))) (eC (.int 1)))) (bE (e2 opGt (eA opLen (aC (eV 1) aN)) (eC (.int 0))))) (sAs 5 (eSl opSlS (e2 opAdd (e2 opIx (eV 1) (e2 opMod (e2 opDiv (eV 4) (eC (.int 24))) (eA opLen (aC (eV 1) aN)))) (eC (.str "am"))) oN (oS (eC (.int 8))))) sNx)
  (sSq (sIf (bAnd (bE (e2 opEq (e2 opMod (e2 opDiv (eV 4) (eC (.int 8))) (eC (.int 3))) (eC (.int 2)))) (bE (e2 opGt (eA opLen (aC (eV 1) aN)) (eC (.int 0))))) (sAs 5 (eSl opSlS (e2 opIx (eV 1) (e2 opMod (e2 opDiv (eV 4) (eC (.int 24))) (eA opLen (aC (eV 1) aN)))) oN (oS (e2 opAdd (eC (.int 1)) (e2 opMod (e2 opDiv (eV 4) (eC (.int 300))) (eC (.int 7))))))) sNx)
  (sAp 2 (eV 5)))))) env := rfl
def F__law_words (r__law_cell_at : List D → Rs D) (r__law_mix : List D → Rs D) : SEnv → Rs Fl :=
  (sSq (sNw 2 (eA opList (aC (eV 1) aN)))
  (sSq (sFor (zR1 (eC (.int 5))) (gS1 3) (B1__law_words r__law_cell_at r__law_mix))
  (sRtV 2)))
def R__law_words : Nat → List D → Rs D
  | 0 => fun _ => .bad
  | n + 1 => fnOf 7 2 .o (F__law_words (R__law_cell_at n) (R__law_mix n))
theorem S__law_words (n : Nat) (ds : List D) : R__law_words (n + 1) ds = fnOf 7 2 .o (F__law_words (R__law_cell_at n) (R__law_mix n)) ds := rfl
def N_law_k02 : List Str := ["script", "many", "keys", "tree", "handed", "word", "steps", "due", "found", "key", "one"]
def B1_law_k02 (r__law_many : List D → Rs D) (r__law_keys : List D → Rs D) (r__law_tree : List D → Rs D) (r__law_words : List D → Rs D) (r__law_cell_at : List D → Rs D) (r__law_steps : List D → Rs D) (r_seek : List D → Rs D) (r__law_whole : List D → Rs D) : SEnv → Rs Fl :=
  (sSq (sAs 6 (eA r__law_steps (aC (eV 3) (aC (eV 5) aN))))
  (sSq (sAs 7 (eA mkT (aC (eC (.str "gap")) (aC (eA opLen (aC (eLc (zLst (eV 2)) [9] 9 (bE (e2 opLt (eV 9) (eV 5))) (eV 9)) aN)) (aC (eV 6) aN)))))
  (sSq (sIf (bE (e2 opIn (eV 5) (eV 2))) (sAs 7 (eA mkT (aC (eC (.str "key")) (aC (eV 6) aN)))) sNx)
  (sSq (sAs 8 (eA r_seek (aC (eV 4) (aC (eV 3) (aC (eV 5) aN)))))
  (sSq (sIf (bOr (bNot (bE (e1 (opIsi "tuple") (eV 8)))) (bOr (bNot (bE (e1 (opIsi "str") (e2 opIx (eV 8) (eC (.int 0)))))) (bE (e2 opNe (eV 8) (eV 7))))) (sRt (eC (.bool false))) sNx)
  (sIf (bNot (bE (eA opAll (aC (eLc (zTup (eSl opSlT (eV 8) (oS (eC (.int 1))) oN)) [10] 10 yesB (eA r__law_whole (aC (eV 10) aN))) aN)))) (sRt (eC (.bool false))) sNx))))))
theorem x_B1_law_k02 (r__law_many : List D → Rs D) (r__law_keys : List D → Rs D) (r__law_tree : List D → Rs D) (r__law_words : List D → Rs D) (r__law_cell_at : List D → Rs D) (r__law_steps : List D → Rs D) (r_seek : List D → Rs D) (r__law_whole : List D → Rs D) (env : SEnv) : B1_law_k02 r__law_many r__law_keys r__law_tree r__law_words r__law_cell_at r__law_steps r_seek r__law_whole env =
  (sSq (sAs 6 (eA r__law_steps (aC (eV 3) (aC (eV 5) aN))))
  (sSq (sAs 7 (eA mkT (aC (eC (.str "gap")) (aC (eA opLen (aC (eLc (zLst (eV 2)) [9] 9 (bE (e2 opLt (eV 9) (eV 5))) (eV 9)) aN)) (aC (eV 6) aN)))))
  (sSq (sIf (bE (e2 opIn (eV 5) (eV 2))) (sAs 7 (eA mkT (aC (eC (.str "key")) (aC (eV 6) aN)))) sNx)
  (sSq (sAs 8 (eA r_seek (aC (eV 4) (aC (eV 3) (aC (eV 5) aN)))))
  (sSq (sIf (bOr (bNot (bE (e1 (opIsi "tuple") (eV 8)))) (bOr (bNot (bE (e1 (opIsi "str") (e2 opIx (eV 8) (eC (.int 0)))))) (bE (e2 opNe (eV 8) (eV 7))))) (sRt (eC (.bool false))) sNx)
  (sIf (bNot (bE (eA opAll (aC (eLc (zTup (eSl opSlT (eV 8) (oS (eC (.int 1))) oN)) [10] 10 yesB (eA r__law_whole (aC (eV 10) aN))) aN)))) (sRt (eC (.bool false))) sNx)))))) env := rfl
def F_law_k02 (r__law_many : List D → Rs D) (r__law_keys : List D → Rs D) (r__law_tree : List D → Rs D) (r__law_words : List D → Rs D) (r__law_cell_at : List D → Rs D) (r__law_steps : List D → Rs D) (r_seek : List D → Rs D) (r__law_whole : List D → Rs D) : SEnv → Rs Fl :=
  (sSq (sAs 1 (eA r__law_many (aC (eA r__law_cell_at (aC (eV 0) (aC (eC (.int 0)) aN))) (aC (eC (.int 12)) aN))))
  (sSq (sAs 2 (eA r__law_keys (aC (eV 0) (aC (eV 1) aN))))
  (sSq (sAs 3 (eA r__law_tree (aC (eV 2) (aC (eA r__law_cell_at (aC (eV 0) (aC (eC (.int 42)) aN))) (aC (eC (.int 0)) (aC (eV 1) aN))))))
  (sSq (sAs 4 (eA opList (aC (eV 2) aN)))
  (sSq (sFor (zLst (eA r__law_words (aC (eV 0) (aC (eV 2) aN)))) (gS1 5) (B1_law_k02 r__law_many r__law_keys r__law_tree r__law_words r__law_cell_at r__law_steps r_seek r__law_whole))
  (sRt (e2 opEq (eV 4) (eV 2))))))))
def R_law_k02 : Nat → List D → Rs D
  | 0 => fun _ => .bad
  | n + 1 => fnOf 11 1 .e (F_law_k02 (R__law_many n) (R__law_keys n) (R__law_tree n) (R__law_words n) (R__law_cell_at n) (R__law_steps n) (R_seek n) (R__law_whole n))
theorem S_law_k02 (n : Nat) (ds : List D) : R_law_k02 (n + 1) ds = fnOf 11 1 .e (F_law_k02 (R__law_many n) (R__law_keys n) (R__law_tree n) (R__law_words n) (R__law_cell_at n) (R__law_steps n) (R_seek n) (R__law_whole n)) ds := rfl
def N_ask_weights : List Str := ["keys", "hits", "misses", "weight"]
def B1_ask_weights (r_ask_keys : List D → Rs D) : SEnv → Rs Fl :=
  (sIf (bNot (bE (eCh opLe opLe (eC (.int 0)) (eV 3) (eC (.int 1000000))))) (sRaise "NoWeights") sNx)
theorem x_B1_ask_weights (r_ask_keys : List D → Rs D) (env : SEnv) : B1_ask_weights r_ask_keys env =
  (sIf (bNot (bE (eCh opLe opLe (eC (.int 0)) (eV 3) (eC (.int 1000000))))) (sRaise "NoWeights") sNx) env := rfl
def F_ask_weights (r_ask_keys : List D → Rs D) : SEnv → Rs Fl :=
  (sSq (sEx (eA r_ask_keys (aC (eV 0) aN)))
  (sSq (sIf (bOr (bE (e2 opNe (eA opLen (aC (eV 1) aN)) (eA opLen (aC (eV 0) aN)))) (bE (e2 opNe (eA opLen (aC (eV 2) aN)) (e2 opAdd (eA opLen (aC (eV 0) aN)) (eC (.int 1)))))) (sRaise "NoWeights") sNx)
  (sFor (zLst (e2 opCat (eA opList (aC (eV 1) aN)) (eA opList (aC (eV 2) aN)))) (gS1 3) (B1_ask_weights r_ask_keys))))
def R_ask_weights : Nat → List D → Rs D
  | 0 => fun _ => .bad
  | n + 1 => fnOf 4 3 .e (F_ask_weights (R_ask_keys n))
theorem S_ask_weights (n : Nat) (ds : List D) : R_ask_weights (n + 1) ds = fnOf 4 3 .e (F_ask_weights (R_ask_keys n)) ds := rfl
def N_cost_of : List Str := ["hits", "misses", "tree", "first", "steps", "left", "right"]
def F_cost_of (r_cost_of : List D → Rs D) : SEnv → Rs Fl :=
  (sSq (sIf (bE (e2 opIs (eV 2) (eC .none))) (sRt (eA mkT (aC (e2 opMul (e2 opIx (eV 1) (eV 3)) (eV 4)) (aC (eV 3) aN)))) sNx)
  (sSq (sAs 5 (eA r_cost_of (aC (eV 0) (aC (eV 1) (aC (e2 opIx (eV 2) (eC (.int 1))) (aC (eV 3) (aC (e2 opAdd (eV 4) (eC (.int 1))) aN)))))))
  (sSq (sAs 6 (eA r_cost_of (aC (eV 0) (aC (eV 1) (aC (e2 opIx (eV 2) (eC (.int 2))) (aC (e2 opAdd (e2 opIx (eV 5) (eC (.int 1))) (eC (.int 1))) (aC (e2 opAdd (eV 4) (eC (.int 1))) aN)))))))
  (sRt (eA mkT (aC (e2 opAdd (e2 opAdd (e2 opIx (eV 5) (eC (.int 0))) (e2 opMul (e2 opIx (eV 0) (e2 opIx (eV 5) (eC (.int 1)))) (e2 opAdd (eV 4) (eC (.int 1))))) (e2 opIx (eV 6) (eC (.int 0)))) (aC (e2 opIx (eV 6) (eC (.int 1))) aN)))))))
def R_cost_of : Nat → List D → Rs D
  | 0 => fun _ => .bad
  | n + 1 => fnOf 7 5 .e (F_cost_of (R_cost_of n))
theorem S_cost_of (n : Nat) (ds : List D) : R_cost_of (n + 1) ds = fnOf 7 5 .e (F_cost_of (R_cost_of n)) ds := rfl
def N_cost : List Str := ["keys", "hits", "misses", "tree"]
def F_cost (r_ask_weights : List D → Rs D) (r_ask_tree : List D → Rs D) (r_cost_of : List D → Rs D) : SEnv → Rs Fl :=
  (sSq (sEx (eA r_ask_weights (aC (eV 0) (aC (eV 1) (aC (eV 2) aN)))))
  (sSq (sEx (eA r_ask_tree (aC (eV 0) (aC (eV 3) aN))))
  (sRt (e2 opIx (eA r_cost_of (aC (eV 1) (aC (eV 2) (aC (eV 3) (aC (eC (.int 0)) (aC (eC (.int 0)) aN)))))) (eC (.int 0))))))
def R_cost : Nat → List D → Rs D
  | 0 => fun _ => .bad
  | n + 1 => fnOf 4 4 .e (F_cost (R_ask_weights n) (R_ask_tree n) (R_cost_of n))
theorem S_cost (n : Nat) (ds : List D) : R_cost (n + 1) ds = fnOf 4 4 .e (F_cost (R_ask_weights n) (R_ask_tree n) (R_cost_of n)) ds := rfl
def N__law_weights : List Str := ["script", "first", "many", "most", "found", "k", "weight"]
def F__law_weights (r__law_cell_at : List D → Rs D) (r__law_mix : List D → Rs D) : SEnv → Rs Fl :=
  (sSq (sAs 3 (e2 opIx (eA mkL (aC (eC (.int 4)) (aC (eC (.int 30)) (aC (eC (.int 1000001)) (aC (eC (.int 2)) aN))))) (e2 opMod (eA r__law_cell_at (aC (eV 0) (aC (eC (.int 1)) aN))) (eC (.int 4)))))
  (sSq (sNw 4 (eLc (zR1 (eV 2)) [5] 5 yesB (e2 opMod (e2 opDiv (eA r__law_mix (aC (eA r__law_cell_at (aC (eV 0) (aC (e2 opAdd (eV 1) (eV 5)) aN))) (aC (eV 5) aN))) (eC (.int 7))) (eV 3))))
  (sSq (sIf (bE (e2 opGt (eV 3) (eC (.int 30)))) (sNwB 4 (eLc (zLst (eV 4)) [6] 6 yesB (e2 opIx (eA mkL (aC (eV 6) (aC (eC (.int 1000000)) aN))) (eA opInt (aC (e2 opEq (e2 opMod (eV 6) (eC (.int 9))) (eC (.int 4))) aN))))) sNx)
  (sRtV 4))))
def R__law_weights : Nat → List D → Rs D
  | 0 => fun _ => .bad
  | n + 1 => fnOf 7 3 .o (F__law_weights (R__law_cell_at n) (R__law_mix n))
theorem S__law_weights (n : Nat) (ds : List D) : R__law_weights (n + 1) ds = fnOf 7 3 .o (F__law_weights (R__law_cell_at n) (R__law_mix n)) ds := rfl
def N__law_cost : List Str := ["tree", "keys", "hits", "misses", "steps", "place", "left", "right"]
def F__law_cost (r__law_cost : List D → Rs D) : SEnv → Rs Fl :=
  (sSq (sIf (bE (e2 opIs (eV 0) (eC .none))) (sRt (e2 opMul (e2 opIx (eV 3) (eC (.int 0))) (eV 4))) sNx)
  (sSq (sAs 5 (eIndex (eV 1) (aC (e2 opIx (eV 0) (eC (.int 0))) aN)))
  (sSq (sAs 6 (eA r__law_cost (aC (e2 opIx (eV 0) (eC (.int 1))) (aC (eSl opSlL (eV 1) oN (oS (eV 5))) (aC (eSl opSlL (eV 2) oN (oS (eV 5))) (aC (eSl opSlL (eV 3) oN (oS (e2 opAdd (eV 5) (eC (.int 1))))) (aC (e2 opAdd (eV 4) (eC (.int 1))) aN)))))))
  (sSq (sAs 7 (eA r__law_cost (aC (e2 opIx (eV 0) (eC (.int 2))) (aC (eSl opSlL (eV 1) (oS (e2 opAdd (eV 5) (eC (.int 1)))) oN) (aC (eSl opSlL (eV 2) (oS (e2 opAdd (eV 5) (eC (.int 1)))) oN) (aC (eSl opSlL (eV 3) (oS (e2 opAdd (eV 5) (eC (.int 1)))) oN) (aC (e2 opAdd (eV 4) (eC (.int 1))) aN)))))))
  (sRt (e2 opAdd (e2 opAdd (eV 6) (e2 opMul (e2 opIx (eV 2) (eV 5)) (e2 opAdd (eV 4) (eC (.int 1))))) (eV 7)))))))
def R__law_cost : Nat → List D → Rs D
  | 0 => fun _ => .bad
  | n + 1 => fnOf 8 5 .e (F__law_cost (R__law_cost n))
theorem S__law_cost (n : Nat) (ds : List D) : R__law_cost (n + 1) ds = fnOf 8 5 .e (F__law_cost (R__law_cost n)) ds := rfl
def N_law_k03 : List Str := ["script", "many", "keys", "hits", "misses", "tree", "due", "handed", "found", "k"]
def B1_law_k03 (r__law_many : List D → Rs D) (r__law_keys : List D → Rs D) (r__law_weights : List D → Rs D) (r__law_tree : List D → Rs D) (r__law_cost : List D → Rs D) (r_cost : List D → Rs D) (r__law_cell_at : List D → Rs D) (r__law_whole : List D → Rs D) : SEnv → Rs Fl :=
  (sNit 7 (eC (.int 1)) (eV 9) (eC (.int 0)))
theorem x_B1_law_k03 (r__law_many : List D → Rs D) (r__law_keys : List D → Rs D) (r__law_weights : List D → Rs D) (r__law_tree : List D → Rs D) (r__law_cost : List D → Rs D) (r_cost : List D → Rs D) (r__law_cell_at : List D → Rs D) (r__law_whole : List D → Rs D) (env : SEnv) : B1_law_k03 r__law_many r__law_keys r__law_weights r__law_tree r__law_cost r_cost r__law_cell_at r__law_whole env =
  (sNit 7 (eC (.int 1)) (eV 9) (eC (.int 0))) env := rfl
def F_law_k03 (r__law_many : List D → Rs D) (r__law_keys : List D → Rs D) (r__law_weights : List D → Rs D) (r__law_tree : List D → Rs D) (r__law_cost : List D → Rs D) (r_cost : List D → Rs D) (r__law_cell_at : List D → Rs D) (r__law_whole : List D → Rs D) : SEnv → Rs Fl :=
  (sSq (sAs 1 (eA r__law_many (aC (eA r__law_cell_at (aC (eV 0) (aC (eC (.int 0)) aN))) (aC (eC (.int 12)) aN))))
  (sSq (sAs 2 (eA r__law_keys (aC (eV 0) (aC (eV 1) aN))))
  (sSq (sAs 3 (eA r__law_weights (aC (eV 0) (aC (eC (.int 2)) (aC (eV 1) aN)))))
  (sSq (sAs 4 (eA r__law_weights (aC (eV 0) (aC (eC (.int 15)) (aC (e2 opAdd (eV 1) (eC (.int 1))) aN)))))
  (sSq (sAs 5 (eA r__law_tree (aC (eV 2) (aC (eA r__law_cell_at (aC (eV 0) (aC (eC (.int 42)) aN))) (aC (eC (.int 0)) (aC (eV 1) aN))))))
  (sSq (sAs 6 (eA r__law_cost (aC (eV 5) (aC (eV 2) (aC (eV 3) (aC (eV 4) (aC (eC (.int 0)) aN)))))))
  (sSq (sNn 7 (eA mkL (aC (eA opList (aC (eV 2) aN)) (aC (eA opList (aC (eV 3) aN)) (aC (eA opList (aC (eV 4) aN)) aN)))))
  (sSq (sAsB 8 (eA r_cost (aC (e2 opIx (eV 7) (eC (.int 0))) (aC (e2 opIx (eV 7) (eC (.int 1))) (aC (e2 opIx (eV 7) (eC (.int 2))) (aC (eV 5) aN))))))
  (sSq (sIf (bOr (bNot (bE (eA r__law_whole (aC (eV 8) aN)))) (bOr (bE (e2 opNe (eV 8) (eV 6))) (bE (e2 opNe (eV 7) (eA mkL (aC (eV 2) (aC (eV 3) (aC (eV 4) aN)))))))) (sRt (eC (.bool false))) sNx)
  (sSq (sNit 7 (eC (.int 2)) (eC (.int 0)) (e2 opAdd (e2 opIx (e2 opIx (eV 7) (eC (.int 2))) (eC (.int 0))) (eC (.int 1))))
  (sSq (sFor (zR1 (eV 1)) (gS1 9) (B1_law_k03 r__law_many r__law_keys r__law_weights r__law_tree r__law_cost r_cost r__law_cell_at r__law_whole))
  (sRt (e2 opEq (eA r_cost (aC (eA opList (aC (eV 2) aN)) (aC (eA opList (aC (eV 3) aN)) (aC (eA opList (aC (eV 4) aN)) (aC (eV 5) aN))))) (eV 6))))))))))))))
def R_law_k03 : Nat → List D → Rs D
  | 0 => fun _ => .bad
  | n + 1 => fnOf 10 1 .e (F_law_k03 (R__law_many n) (R__law_keys n) (R__law_weights n) (R__law_tree n) (R__law_cost n) (R_cost n) (R__law_cell_at n) (R__law_whole n))
theorem S_law_k03 (n : Nat) (ds : List D) : R_law_k03 (n + 1) ds = fnOf 10 1 .e (F_law_k03 (R__law_many n) (R__law_keys n) (R__law_weights n) (R__law_tree n) (R__law_cost n) (R_cost n) (R__law_cell_at n) (R__law_whole n)) ds := rfl
def N__law_between : List Str := ["keys", "gap"]
def F__law_between : SEnv → Rs Fl :=
  (sSq (sIf (bE (e2 opEq (eV 1) (eC (.int 0)))) (sRt (eC (.str "a"))) sNx)
  (sRt (e2 opAdd (e2 opIx (eV 0) (e2 opSub (eV 1) (eC (.int 1)))) (eC (.str "a")))))
def R__law_between : Nat → List D → Rs D
  | 0 => fun _ => .bad
  | n + 1 => fnOf 2 2 .e (F__law_between)
theorem S__law_between (n : Nat) (ds : List D) : R__law_between (n + 1) ds = fnOf 2 2 .e (F__law_between) ds := rfl
def N_law_k04 : List Str := ["script", "many", "keys", "hits", "misses", "tree", "total", "place", "found", "gap", "word", "key"]
def B1_law_k04 (r__law_many : List D → Rs D) (r__law_weights : List D → Rs D) (r__law_tree : List D → Rs D) (r__law_cell_at : List D → Rs D) (r_seek : List D → Rs D) (r__law_between : List D → Rs D) (r_cost : List D → Rs D) (r__law_keys : List D → Rs D) (r__law_whole : List D → Rs D) : SEnv → Rs Fl :=
  (sSq (sAs 8 (eA r_seek (aC (eA opList (aC (eV 2) aN)) (aC (eV 5) (aC (e2 opIx (eV 2) (eV 7)) aN)))))
  (sSq (sIf (bOr (bE (e2 opNe (e2 opIx (eV 8) (eC (.int 0))) (eC (.str "key")))) (bNot (bE (eA r__law_whole (aC (e2 opIx (eV 8) (eC (.int 1))) aN))))) (sRt (eC (.bool false))) sNx)
  (sAs 6 (e2 opAdd (eV 6) (e2 opMul (e2 opIx (eV 3) (eV 7)) (e2 opIx (eV 8) (eC (.int 1))))))))
theorem x_B1_law_k04 (r__law_many : List D → Rs D) (r__law_weights : List D → Rs D) (r__law_tree : List D → Rs D) (r__law_cell_at : List D → Rs D) (r_seek : List D → Rs D) (r__law_between : List D → Rs D) (r_cost : List D → Rs D) (r__law_keys : List D → Rs D) (r__law_whole : List D → Rs D) (env : SEnv) : B1_law_k04 r__law_many r__law_weights r__law_tree r__law_cell_at r_seek r__law_between r_cost r__law_keys r__law_whole env =
  (sSq (sAs 8 (eA r_seek (aC (eA opList (aC (eV 2) aN)) (aC (eV 5) (aC (e2 opIx (eV 2) (eV 7)) aN)))))
  (sSq (sIf (bOr (bE (e2 opNe (e2 opIx (eV 8) (eC (.int 0))) (eC (.str "key")))) (bNot (bE (eA r__law_whole (aC (e2 opIx (eV 8) (eC (.int 1))) aN))))) (sRt (eC (.bool false))) sNx)
  (sAs 6 (e2 opAdd (eV 6) (e2 opMul (e2 opIx (eV 3) (eV 7)) (e2 opIx (eV 8) (eC (.int 1)))))))) env := rfl
def B2_law_k04 (r__law_many : List D → Rs D) (r__law_weights : List D → Rs D) (r__law_tree : List D → Rs D) (r__law_cell_at : List D → Rs D) (r_seek : List D → Rs D) (r__law_between : List D → Rs D) (r_cost : List D → Rs D) (r__law_keys : List D → Rs D) (r__law_whole : List D → Rs D) : SEnv → Rs Fl :=
  (sSq (sAs 10 (eA r__law_between (aC (eV 2) (aC (eV 9) aN))))
  (sIf (bAnd (bE (e2 opNi (eV 10) (eV 2))) (bE (e2 opEq (eA opLen (aC (eLc (zLst (eV 2)) [11] 11 (bE (e2 opLt (eV 11) (eV 10))) (eV 11)) aN)) (eV 9)))) (sSq (sAs 8 (eA r_seek (aC (eA opList (aC (eV 2) aN)) (aC (eV 5) (aC (eV 10) aN)))))
  (sSq (sIf (bOr (bE (e2 opNe (eSl opSlT (eV 8) oN (oS (eC (.int 2)))) (eA mkT (aC (eC (.str "gap")) (aC (eV 9) aN))))) (bNot (bE (eA r__law_whole (aC (e2 opIx (eV 8) (eC (.int 2))) aN))))) (sRt (eC (.bool false))) sNx)
  (sAsB 6 (e2 opAdd (eV 6) (e2 opMul (e2 opIx (eV 4) (eV 9)) (e2 opIx (eV 8) (eC (.int 2)))))))) (sIt 4 (eV 9) (eC (.int 0)))))
theorem x_B2_law_k04 (r__law_many : List D → Rs D) (r__law_weights : List D → Rs D) (r__law_tree : List D → Rs D) (r__law_cell_at : List D → Rs D) (r_seek : List D → Rs D) (r__law_between : List D → Rs D) (r_cost : List D → Rs D) (r__law_keys : List D → Rs D) (r__law_whole : List D → Rs D) (env : SEnv) : B2_law_k04 r__law_many r__law_weights r__law_tree r__law_cell_at r_seek r__law_between r_cost r__law_keys r__law_whole env =
  (sSq (sAs 10 (eA r__law_between (aC (eV 2) (aC (eV 9) aN))))
  (sIf (bAnd (bE (e2 opNi (eV 10) (eV 2))) (bE (e2 opEq (eA opLen (aC (eLc (zLst (eV 2)) [11] 11 (bE (e2 opLt (eV 11) (eV 10))) (eV 11)) aN)) (eV 9)))) (sSq (sAs 8 (eA r_seek (aC (eA opList (aC (eV 2) aN)) (aC (eV 5) (aC (eV 10) aN)))))
  (sSq (sIf (bOr (bE (e2 opNe (eSl opSlT (eV 8) oN (oS (eC (.int 2)))) (eA mkT (aC (eC (.str "gap")) (aC (eV 9) aN))))) (bNot (bE (eA r__law_whole (aC (e2 opIx (eV 8) (eC (.int 2))) aN))))) (sRt (eC (.bool false))) sNx)
  (sAsB 6 (e2 opAdd (eV 6) (e2 opMul (e2 opIx (eV 4) (eV 9)) (e2 opIx (eV 8) (eC (.int 2)))))))) (sIt 4 (eV 9) (eC (.int 0))))) env := rfl
def F_law_k04 (r__law_many : List D → Rs D) (r__law_weights : List D → Rs D) (r__law_tree : List D → Rs D) (r__law_cell_at : List D → Rs D) (r_seek : List D → Rs D) (r__law_between : List D → Rs D) (r_cost : List D → Rs D) (r__law_keys : List D → Rs D) (r__law_whole : List D → Rs D) : SEnv → Rs Fl :=
  (sSq (sAs 1 (eA r__law_many (aC (eA r__law_cell_at (aC (eV 0) (aC (eC (.int 0)) aN))) (aC (eC (.int 12)) aN))))
  (sSq (sAs 2 (eLc (zLst (eA r__law_keys (aC (eV 0) (aC (eA opMin (aC (eV 1) (aC (eC (.int 7)) aN))) aN)))) [11] 11 yesB (eSl opSlS (eV 11) oN (oS (eC (.int 7))))))
  (sSq (sAs 1 (eA opLen (aC (eV 2) aN)))
  (sSq (sAs 3 (eA r__law_weights (aC (eV 0) (aC (eC (.int 2)) (aC (eV 1) aN)))))
  (sSq (sNw 4 (eA r__law_weights (aC (eV 0) (aC (eC (.int 15)) (aC (e2 opAdd (eV 1) (eC (.int 1))) aN)))))
  (sSq (sAs 5 (eA r__law_tree (aC (eV 2) (aC (eA r__law_cell_at (aC (eV 0) (aC (eC (.int 42)) aN))) (aC (eC (.int 0)) (aC (eV 1) aN))))))
  (sSq (sAs 6 (eC (.int 0)))
  (sSq (sFor (zR1 (eV 1)) (gS1 7) (B1_law_k04 r__law_many r__law_weights r__law_tree r__law_cell_at r_seek r__law_between r_cost r__law_keys r__law_whole))
  (sSq (sFor (zR1 (e2 opAdd (eV 1) (eC (.int 1)))) (gS1 9) (B2_law_k04 r__law_many r__law_weights r__law_tree r__law_cell_at r_seek r__law_between r_cost r__law_keys r__law_whole))
  (sRt (e2 opEq (eA r_cost (aC (eA opList (aC (eV 2) aN)) (aC (eA opList (aC (eV 3) aN)) (aC (eA opList (aC (eV 4) aN)) (aC (eV 5) aN))))) (eV 6))))))))))))
def R_law_k04 : Nat → List D → Rs D
  | 0 => fun _ => .bad
  | n + 1 => fnOf 12 1 .e (F_law_k04 (R__law_many n) (R__law_weights n) (R__law_tree n) (R__law_cell_at n) (R_seek n) (R__law_between n) (R_cost n) (R__law_keys n) (R__law_whole n))
theorem S_law_k04 (n : Nat) (ds : List D) : R_law_k04 (n + 1) ds = fnOf 12 1 .e (F_law_k04 (R__law_many n) (R__law_weights n) (R__law_tree n) (R__law_cell_at n) (R_seek n) (R__law_between n) (R_cost n) (R__law_keys n) (R__law_whole n)) ds := rfl
def N_tables : List Str := ["hits", "misses", "many", "worth", "root", "size", "first", "last", "whole", "some", "place"]
def B1_tables : SEnv → Rs Fl :=
  (sSq (sAs 7 (e2 opAdd (eV 6) (eV 5)))
  (sIf (bE (e2 opEq (eV 5) (eC (.int 0)))) (sDp 3 (eV 6) (eV 7) (eC (.int 0))) (sSq (sAs 8 (e2 opAdd (eA opSum (aC (eSl opSlL (eV 0) (oS (eV 6)) (oS (eV 7))) aN)) (eA opSum (aC (eSl opSlL (eV 1) (oS (eV 6)) (oS (e2 opAdd (eV 7) (eC (.int 1))))) aN))))
  (sSq (sNwB 9 (eLc (zR2 (eV 6) (eV 7)) [10] 10 yesB (e2 opAdd (eDg (eV 3) (eV 6) (eV 10)) (eDg (eV 3) (e2 opAdd (eV 10) (eC (.int 1))) (eV 7)))))
  (sSq (sDp 3 (eV 6) (eV 7) (e2 opAdd (eV 8) (eA opMin (aC (eV 9) aN))))
  (sDp 4 (eV 6) (eV 7) (e2 opAdd (eV 6) (eIndex (eV 9) (aC (eA opMin (aC (eV 9) aN)) aN)))))))))
theorem x_B1_tables (env : SEnv) : B1_tables env =
  (sSq (sAs 7 (e2 opAdd (eV 6) (eV 5)))
  (sIf (bE (e2 opEq (eV 5) (eC (.int 0)))) (sDp 3 (eV 6) (eV 7) (eC (.int 0))) (sSq (sAs 8 (e2 opAdd (eA opSum (aC (eSl opSlL (eV 0) (oS (eV 6)) (oS (eV 7))) aN)) (eA opSum (aC (eSl opSlL (eV 1) (oS (eV 6)) (oS (e2 opAdd (eV 7) (eC (.int 1))))) aN))))
  (sSq (sNwB 9 (eLc (zR2 (eV 6) (eV 7)) [10] 10 yesB (e2 opAdd (eDg (eV 3) (eV 6) (eV 10)) (eDg (eV 3) (e2 opAdd (eV 10) (eC (.int 1))) (eV 7)))))
  (sSq (sDp 3 (eV 6) (eV 7) (e2 opAdd (eV 8) (eA opMin (aC (eV 9) aN))))
  (sDp 4 (eV 6) (eV 7) (e2 opAdd (eV 6) (eIndex (eV 9) (aC (eA opMin (aC (eV 9) aN)) aN))))))))) env := rfl
def B2_tables : SEnv → Rs Fl :=
  (sFor (zR1 (e2 opSub (e2 opAdd (eV 2) (eC (.int 1))) (eV 5))) (gS1 6) (B1_tables))
theorem x_B2_tables (env : SEnv) : B2_tables env =
  (sFor (zR1 (e2 opSub (e2 opAdd (eV 2) (eC (.int 1))) (eV 5))) (gS1 6) (B1_tables)) env := rfl
def F_tables : SEnv → Rs Fl :=
  (sSq (sAs 2 (eA opLen (aC (eV 0) aN)))
  (sSq (sNw 3 (eC (.dict [])))
  (sSq (sNw 4 (eC (.dict [])))
  (sSq (sFor (zR1 (e2 opAdd (eV 2) (eC (.int 1)))) (gS1 5) (B2_tables))
  (sRt (eA mkT (aC (eV 3) (aC (eV 4) aN))))))))
def R_tables : Nat → List D → Rs D
  | 0 => fun _ => .bad
  | n + 1 => fnOf 11 2 .e (F_tables)
theorem S_tables (n : Nat) (ds : List D) : R_tables (n + 1) ds = fnOf 11 2 .e (F_tables) ds := rfl
def N_worths : List Str := ["keys", "hits", "misses", "many", "worth", "first", "last"]
def F_worths (r_ask_weights : List D → Rs D) (r_tables : List D → Rs D) : SEnv → Rs Fl :=
  (sSq (sEx (eA r_ask_weights (aC (eV 0) (aC (eV 1) (aC (eV 2) aN)))))
  (sSq (sAs 3 (eA opLen (aC (eV 0) aN)))
  (sSq (sAs 4 (e2 opIx (eA r_tables (aC (eV 1) (aC (eV 2) aN))) (eC (.int 0))))
  (sRt (eLc (zR1 (e2 opAdd (eV 3) (eC (.int 1)))) [5] 5 yesB (eLc (zR2 (eV 5) (e2 opAdd (eV 3) (eC (.int 1)))) [6] 6 yesB (eDg (eV 4) (eV 5) (eV 6))))))))
def R_worths : Nat → List D → Rs D
  | 0 => fun _ => .bad
  | n + 1 => fnOf 7 3 .n (F_worths (R_ask_weights n) (R_tables n))
theorem S_worths (n : Nat) (ds : List D) : R_worths (n + 1) ds = fnOf 7 3 .n (F_worths (R_ask_weights n) (R_tables n)) ds := rfl
def N_least : List Str := ["keys", "hits", "misses"]
def F_least (r_ask_weights : List D → Rs D) (r_tables : List D → Rs D) : SEnv → Rs Fl :=
  (sSq (sEx (eA r_ask_weights (aC (eV 0) (aC (eV 1) (aC (eV 2) aN)))))
  (sRt (eDg (e2 opIx (eA r_tables (aC (eV 1) (aC (eV 2) aN))) (eC (.int 0))) (eC (.int 0)) (eA opLen (aC (eV 0) aN)))))
def R_least : Nat → List D → Rs D
  | 0 => fun _ => .bad
  | n + 1 => fnOf 3 3 .e (F_least (R_ask_weights n) (R_tables n))
theorem S_least (n : Nat) (ds : List D) : R_least (n + 1) ds = fnOf 3 3 .e (F_least (R_ask_weights n) (R_tables n)) ds := rfl
def N__law_rows_are : List Str := ["found", "due", "row", "own", "one"]
def B1__law_rows_are (r__law_whole : List D → Rs D) : SEnv → Rs Fl :=
  (sIf (bOr (bNot (bE (e1 (opIsi "list") (eV 2)))) (bOr (bNot (bE (eA opAll (aC (eLc (zLst (eV 2)) [4] 4 yesB (eA r__law_whole (aC (eV 4) aN))) aN)))) (bE (e2 opNe (eV 2) (eV 3))))) (sRt (eC (.bool false))) sNx)
theorem x_B1__law_rows_are (r__law_whole : List D → Rs D) (env : SEnv) : B1__law_rows_are r__law_whole env =
  (sIf (bOr (bNot (bE (e1 (opIsi "list") (eV 2)))) (bOr (bNot (bE (eA opAll (aC (eLc (zLst (eV 2)) [4] 4 yesB (eA r__law_whole (aC (eV 4) aN))) aN)))) (bE (e2 opNe (eV 2) (eV 3))))) (sRt (eC (.bool false))) sNx) env := rfl
def F__law_rows_are (r__law_whole : List D → Rs D) : SEnv → Rs Fl :=
  (sSq (sIf (bOr (bNot (bE (e1 (opIsi "list") (eV 0)))) (bE (e2 opNe (eA opLen (aC (eV 0) aN)) (eA opLen (aC (eV 1) aN))))) (sRt (eC (.bool false))) sNx)
  (sSq (sFor (zZip (eV 0) (eV 1)) (gS2 2 3) (B1__law_rows_are r__law_whole))
  (sRt (eC (.bool true)))))
def R__law_rows_are : Nat → List D → Rs D
  | 0 => fun _ => .bad
  | n + 1 => fnOf 5 2 .e (F__law_rows_are (R__law_whole n))
theorem S__law_rows_are (n : Nat) (ds : List D) : R__law_rows_are (n + 1) ds = fnOf 5 2 .e (F__law_rows_are (R__law_whole n)) ds := rfl
def N__law_due_k05 : List Str := ["found", "hits", "misses", "first", "last", "whole", "some", "place", "left", "right"]
def B1__law_due_k05 : SEnv → Rs Fl :=
  (sSq (sAs 8 (e2 opIx (e2 opIx (eV 0) (eV 3)) (e2 opSub (eV 7) (eV 3))))
  (sSq (sAs 9 (e2 opIx (e2 opIx (eV 0) (e2 opAdd (eV 7) (eC (.int 1)))) (e2 opSub (e2 opSub (eV 4) (eV 7)) (eC (.int 1)))))
  (sAp 6 (e2 opAdd (eV 8) (eV 9)))))
theorem x_B1__law_due_k05 (env : SEnv) : B1__law_due_k05 env =
  (sSq (sAs 8 (e2 opIx (e2 opIx (eV 0) (eV 3)) (e2 opSub (eV 7) (eV 3))))
  (sSq (sAs 9 (e2 opIx (e2 opIx (eV 0) (e2 opAdd (eV 7) (eC (.int 1)))) (e2 opSub (e2 opSub (eV 4) (eV 7)) (eC (.int 1)))))
  (sAp 6 (e2 opAdd (eV 8) (eV 9))))) env := rfl
def F__law_due_k05 : SEnv → Rs Fl :=
  (sSq (sIf (bE (e2 opEq (eV 3) (eV 4))) (sRt (eC (.int 0))) sNx)
  (sSq (sAs 5 (e2 opAdd (eA opSum (aC (eSl opSlL (eV 1) (oS (eV 3)) (oS (eV 4))) aN)) (eA opSum (aC (eSl opSlL (eV 2) (oS (eV 3)) (oS (e2 opAdd (eV 4) (eC (.int 1))))) aN))))
  (sSq (sNw 6 (eA mkL aN))
  (sSq (sFor (zR2 (eV 3) (eV 4)) (gS1 7) (B1__law_due_k05))
  (sRt (e2 opAdd (eV 5) (eA opMin (aC (eV 6) aN))))))))
def R__law_due_k05 : Nat → List D → Rs D
  | 0 => fun _ => .bad
  | n + 1 => fnOf 10 5 .e (F__law_due_k05)
theorem S__law_due_k05 (n : Nat) (ds : List D) : R__law_due_k05 (n + 1) ds = fnOf 10 5 .e (F__law_due_k05) ds := rfl
def N__law_right : List Str := ["found", "hits", "misses", "many", "lengths", "first", "last", "one", "k", "row"]
def B1__law_right (r__law_whole : List D → Rs D) (r__law_due_k05 : List D → Rs D) : SEnv → Rs Fl :=
  (sSq (sAs 7 (e2 opIx (e2 opIx (eV 0) (eV 5)) (e2 opSub (eV 6) (eV 5))))
  (sIf (bOr (bNot (bE (eA r__law_whole (aC (eV 7) aN)))) (bE (e2 opNe (eV 7) (eA r__law_due_k05 (aC (eV 0) (aC (eV 1) (aC (eV 2) (aC (eV 5) (aC (eV 6) aN))))))))) (sRt (eC (.bool false))) sNx))
theorem x_B1__law_right (r__law_whole : List D → Rs D) (r__law_due_k05 : List D → Rs D) (env : SEnv) : B1__law_right r__law_whole r__law_due_k05 env =
  (sSq (sAs 7 (e2 opIx (e2 opIx (eV 0) (eV 5)) (e2 opSub (eV 6) (eV 5))))
  (sIf (bOr (bNot (bE (eA r__law_whole (aC (eV 7) aN)))) (bE (e2 opNe (eV 7) (eA r__law_due_k05 (aC (eV 0) (aC (eV 1) (aC (eV 2) (aC (eV 5) (aC (eV 6) aN))))))))) (sRt (eC (.bool false))) sNx)) env := rfl
def B2__law_right (r__law_whole : List D → Rs D) (r__law_due_k05 : List D → Rs D) : SEnv → Rs Fl :=
  (sFor (zR2 (eV 5) (e2 opAdd (eV 3) (eC (.int 1)))) (gS1 6) (B1__law_right r__law_whole r__law_due_k05))
theorem x_B2__law_right (r__law_whole : List D → Rs D) (r__law_due_k05 : List D → Rs D) (env : SEnv) : B2__law_right r__law_whole r__law_due_k05 env =
  (sFor (zR2 (eV 5) (e2 opAdd (eV 3) (eC (.int 1)))) (gS1 6) (B1__law_right r__law_whole r__law_due_k05)) env := rfl
def F__law_right (r__law_whole : List D → Rs D) (r__law_due_k05 : List D → Rs D) : SEnv → Rs Fl :=
  (sSq (sAs 3 (eA opLen (aC (eV 1) aN)))
  (sSq (sAs 4 (eLc (zR1 (e2 opAdd (eV 3) (eC (.int 1)))) [8] 8 yesB (e2 opSub (e2 opAdd (eV 3) (eC (.int 1))) (eV 8))))
  (sSq (sIf (bOr (bNot (bE (e1 (opIsi "list") (eV 0)))) (bE (e2 opNe (eLc (zLst (eV 0)) [9] 9 yesB (eA opLen (aC (eV 9) aN))) (eV 4)))) (sRt (eC (.bool false))) sNx)
  (sSq (sFor (zR1 (e2 opAdd (eV 3) (eC (.int 1)))) (gS1 5) (B2__law_right r__law_whole r__law_due_k05))
  (sRt (eC (.bool true)))))))
def R__law_right : Nat → List D → Rs D
  | 0 => fun _ => .bad
  | n + 1 => fnOf 10 3 .e (F__law_right (R__law_whole n) (R__law_due_k05 n))
theorem S__law_right (n : Nat) (ds : List D) : R__law_right (n + 1) ds = fnOf 10 3 .e (F__law_right (R__law_whole n) (R__law_due_k05 n)) ds := rfl
def N_law_k05 : List Str := ["script", "many", "keys", "hits", "misses", "handed", "turn", "found", "low"]
def B1_law_k05 (r__law_many : List D → Rs D) (r__law_keys : List D → Rs D) (r__law_weights : List D → Rs D) (r__law_cell_at : List D → Rs D) (r_worths : List D → Rs D) (r_least : List D → Rs D) (r__law_right : List D → Rs D) (r__law_whole : List D → Rs D) : SEnv → Rs Fl :=
  (sSq (sNn 7 (eA r_worths (aC (e2 opIx (eV 5) (eC (.int 0))) (aC (e2 opIx (eV 5) (eC (.int 1))) (aC (e2 opIx (eV 5) (eC (.int 2))) aN)))))
  (sSq (sIf (bOr (bNot (bE (eA r__law_right (aC (eV 7) (aC (eV 3) (aC (eV 4) aN)))))) (bE (e2 opNe (eV 5) (eA mkL (aC (eV 2) (aC (eV 3) (aC (eV 4) aN))))))) (sRt (eC (.bool false))) sNx)
  (sSq (sAs 8 (eA r_least (aC (e2 opIx (eV 5) (eC (.int 0))) (aC (e2 opIx (eV 5) (eC (.int 1))) (aC (e2 opIx (eV 5) (eC (.int 2))) aN)))))
  (sSq (sIf (bOr (bNot (bE (eA r__law_whole (aC (eV 8) aN)))) (bE (e2 opNe (eV 8) (e2 opIx (e2 opIx (eV 7) (eC (.int 0))) (eV 1))))) (sRt (eC (.bool false))) sNx)
  (sSq (sNap 7 (eC (.int 0)) (eC (.int 1)))
  (sSq (sNit 7 (eV 1) (eC (.int 0)) (eC (.int 5)))
  (sNp 7 (eA mkL aN))))))))
theorem x_B1_law_k05 (r__law_many : List D → Rs D) (r__law_keys : List D → Rs D) (r__law_weights : List D → Rs D) (r__law_cell_at : List D → Rs D) (r_worths : List D → Rs D) (r_least : List D → Rs D) (r__law_right : List D → Rs D) (r__law_whole : List D → Rs D) (env : SEnv) : B1_law_k05 r__law_many r__law_keys r__law_weights r__law_cell_at r_worths r_least r__law_right r__law_whole env =
  (sSq (sNn 7 (eA r_worths (aC (e2 opIx (eV 5) (eC (.int 0))) (aC (e2 opIx (eV 5) (eC (.int 1))) (aC (e2 opIx (eV 5) (eC (.int 2))) aN)))))
  (sSq (sIf (bOr (bNot (bE (eA r__law_right (aC (eV 7) (aC (eV 3) (aC (eV 4) aN)))))) (bE (e2 opNe (eV 5) (eA mkL (aC (eV 2) (aC (eV 3) (aC (eV 4) aN))))))) (sRt (eC (.bool false))) sNx)
  (sSq (sAs 8 (eA r_least (aC (e2 opIx (eV 5) (eC (.int 0))) (aC (e2 opIx (eV 5) (eC (.int 1))) (aC (e2 opIx (eV 5) (eC (.int 2))) aN)))))
  (sSq (sIf (bOr (bNot (bE (eA r__law_whole (aC (eV 8) aN)))) (bE (e2 opNe (eV 8) (e2 opIx (e2 opIx (eV 7) (eC (.int 0))) (eV 1))))) (sRt (eC (.bool false))) sNx)
  (sSq (sNap 7 (eC (.int 0)) (eC (.int 1)))
  (sSq (sNit 7 (eV 1) (eC (.int 0)) (eC (.int 5)))
  (sNp 7 (eA mkL aN)))))))) env := rfl
def F_law_k05 (r__law_many : List D → Rs D) (r__law_keys : List D → Rs D) (r__law_weights : List D → Rs D) (r__law_cell_at : List D → Rs D) (r_worths : List D → Rs D) (r_least : List D → Rs D) (r__law_right : List D → Rs D) (r__law_whole : List D → Rs D) : SEnv → Rs Fl :=
  (sSq (sAs 1 (eA r__law_many (aC (eA r__law_cell_at (aC (eV 0) (aC (eC (.int 0)) aN))) (aC (eC (.int 12)) aN))))
  (sSq (sAs 2 (eA r__law_keys (aC (eV 0) (aC (eV 1) aN))))
  (sSq (sAs 3 (eA r__law_weights (aC (eV 0) (aC (eC (.int 2)) (aC (eV 1) aN)))))
  (sSq (sAs 4 (eA r__law_weights (aC (eV 0) (aC (eC (.int 15)) (aC (e2 opAdd (eV 1) (eC (.int 1))) aN)))))
  (sSq (sAs 5 (eA mkL (aC (eA opList (aC (eV 2) aN)) (aC (eA opList (aC (eV 3) aN)) (aC (eA opList (aC (eV 4) aN)) aN)))))
  (sSq (sFor (zR1 (eC (.int 2))) (gS1 6) (B1_law_k05 r__law_many r__law_keys r__law_weights r__law_cell_at r_worths r_least r__law_right r__law_whole))
  (sRt (eC (.bool true)))))))))
def R_law_k05 : Nat → List D → Rs D
  | 0 => fun _ => .bad
  | n + 1 => fnOf 9 1 .e (F_law_k05 (R__law_many n) (R__law_keys n) (R__law_weights n) (R__law_cell_at n) (R_worths n) (R_least n) (R__law_right n) (R__law_whole n))
theorem S_law_k05 (n : Nat) (ds : List D) : R_law_k05 (n + 1) ds = fnOf 9 1 .e (F_law_k05 (R__law_many n) (R__law_keys n) (R__law_weights n) (R__law_cell_at n) (R_worths n) (R_least n) (R__law_right n) (R__law_whole n)) ds := rfl
def N_roots : List Str := ["keys", "hits", "misses", "many", "root", "first", "last"]
def F_roots (r_ask_weights : List D → Rs D) (r_tables : List D → Rs D) : SEnv → Rs Fl :=
  (sSq (sEx (eA r_ask_weights (aC (eV 0) (aC (eV 1) (aC (eV 2) aN)))))
  (sSq (sAs 3 (eA opLen (aC (eV 0) aN)))
  (sSq (sAs 4 (e2 opIx (eA r_tables (aC (eV 1) (aC (eV 2) aN))) (eC (.int 1))))
  (sRt (eLc (zR1 (eV 3)) [5] 5 yesB (eLc (zR2 (e2 opAdd (eV 5) (eC (.int 1))) (e2 opAdd (eV 3) (eC (.int 1)))) [6] 6 yesB (eDg (eV 4) (eV 5) (eV 6))))))))
def R_roots : Nat → List D → Rs D
  | 0 => fun _ => .bad
  | n + 1 => fnOf 7 3 .n (F_roots (R_ask_weights n) (R_tables n))
theorem S_roots (n : Nat) (ds : List D) : R_roots (n + 1) ds = fnOf 7 3 .n (F_roots (R_ask_weights n) (R_tables n)) ds := rfl
def N_built : List Str := ["keys", "root", "first", "last", "place"]
def F_built (r_built : List D → Rs D) : SEnv → Rs Fl :=
  (sSq (sIf (bE (e2 opEq (eV 2) (eV 3))) (sRt (eC .none)) sNx)
  (sSq (sAs 4 (eDg (eV 1) (eV 2) (eV 3)))
  (sRt (eA mkT (aC (e2 opIx (eV 0) (eV 4)) (aC (eA r_built (aC (eV 0) (aC (eV 1) (aC (eV 2) (aC (eV 4) aN))))) (aC (eA r_built (aC (eV 0) (aC (eV 1) (aC (e2 opAdd (eV 4) (eC (.int 1))) (aC (eV 3) aN))))) aN)))))))
def R_built : Nat → List D → Rs D
  | 0 => fun _ => .bad
  | n + 1 => fnOf 5 4 .e (F_built (R_built n))
theorem S_built (n : Nat) (ds : List D) : R_built (n + 1) ds = fnOf 5 4 .e (F_built (R_built n)) ds := rfl
def N_best : List Str := ["keys", "hits", "misses"]
def F_best (r_ask_weights : List D → Rs D) (r_built : List D → Rs D) (r_tables : List D → Rs D) : SEnv → Rs Fl :=
  (sSq (sEx (eA r_ask_weights (aC (eV 0) (aC (eV 1) (aC (eV 2) aN)))))
  (sRt (eA r_built (aC (eV 0) (aC (e2 opIx (eA r_tables (aC (eV 1) (aC (eV 2) aN))) (eC (.int 1))) (aC (eC (.int 0)) (aC (eA opLen (aC (eV 0) aN)) aN)))))))
def R_best : Nat → List D → Rs D
  | 0 => fun _ => .bad
  | n + 1 => fnOf 3 3 .e (F_best (R_ask_weights n) (R_built n) (R_tables n))
theorem S_best (n : Nat) (ds : List D) : R_best (n + 1) ds = fnOf 3 3 .e (F_best (R_ask_weights n) (R_built n) (R_tables n)) ds := rfl
def N__law_is_tree : List Str := ["tree", "keys", "place"]
def F__law_is_tree (r__law_is_tree : List D → Rs D) : SEnv → Rs Fl :=
  (sSq (sIf (bE (e2 opIs (eV 0) (eC .none))) (sRt (e2 opEq (eV 1) (eA mkL aN))) sNx)
  (sSq (sIf (bOr (bNot (bE (e1 (opIsi "tuple") (eV 0)))) (bOr (bE (e2 opNe (eA opLen (aC (eV 0) aN)) (eC (.int 3)))) (bOr (bNot (bE (e1 (opIsi "str") (e2 opIx (eV 0) (eC (.int 0)))))) (bE (e2 opNi (e2 opIx (eV 0) (eC (.int 0))) (eV 1)))))) (sRt (eC (.bool false))) sNx)
  (sSq (sAs 2 (eIndex (eV 1) (aC (e2 opIx (eV 0) (eC (.int 0))) aN)))
  (sRt (eAnd (eA r__law_is_tree (aC (e2 opIx (eV 0) (eC (.int 1))) (aC (eSl opSlL (eV 1) oN (oS (eV 2))) aN))) (eA r__law_is_tree (aC (e2 opIx (eV 0) (eC (.int 2))) (aC (eSl opSlL (eV 1) (oS (e2 opAdd (eV 2) (eC (.int 1)))) oN) aN))))))))
def R__law_is_tree : Nat → List D → Rs D
  | 0 => fun _ => .bad
  | n + 1 => fnOf 3 2 .e (F__law_is_tree (R__law_is_tree n))
theorem S__law_is_tree (n : Nat) (ds : List D) : R__law_is_tree (n + 1) ds = fnOf 3 2 .e (F__law_is_tree (R__law_is_tree n)) ds := rfl
def N__law_fits : List Str := ["tree", "keys", "hits", "misses", "first", "told", "last", "place"]
def F__law_fits (r__law_fits : List D → Rs D) (r__law_cost : List D → Rs D) : SEnv → Rs Fl :=
  (sSq (sAs 6 (e2 opAdd (eV 4) (eA opLen (aC (eV 1) aN))))
  (sSq (sIf (bE (e2 opNe (eA r__law_cost (aC (eV 0) (aC (eV 1) (aC (eV 2) (aC (eV 3) (aC (eC (.int 0)) aN)))))) (e2 opIx (e2 opIx (e2 opIx (eV 5) (eC (.int 0))) (eV 4)) (e2 opSub (eV 6) (eV 4))))) (sRt (eC (.bool false))) sNx)
  (sSq (sIf (bE (e2 opIs (eV 0) (eC .none))) (sRt (eC (.bool true))) sNx)
  (sSq (sAs 7 (eIndex (eV 1) (aC (e2 opIx (eV 0) (eC (.int 0))) aN)))
  (sSq (sIf (bE (e2 opNe (e2 opIx (e2 opIx (e2 opIx (eV 5) (eC (.int 1))) (eV 4)) (e2 opSub (e2 opSub (eV 6) (eV 4)) (eC (.int 1)))) (e2 opAdd (eV 4) (eV 7)))) (sRt (eC (.bool false))) sNx)
  (sSq (sIf (bNot (bE (eA r__law_fits (aC (e2 opIx (eV 0) (eC (.int 1))) (aC (eSl opSlL (eV 1) oN (oS (eV 7))) (aC (eSl opSlL (eV 2) oN (oS (eV 7))) (aC (eSl opSlL (eV 3) oN (oS (e2 opAdd (eV 7) (eC (.int 1))))) (aC (eV 4) (aC (eV 5) aN))))))))) (sRt (eC (.bool false))) sNx)
  (sRt (eA r__law_fits (aC (e2 opIx (eV 0) (eC (.int 2))) (aC (eSl opSlL (eV 1) (oS (e2 opAdd (eV 7) (eC (.int 1)))) oN) (aC (eSl opSlL (eV 2) (oS (e2 opAdd (eV 7) (eC (.int 1)))) oN) (aC (eSl opSlL (eV 3) (oS (e2 opAdd (eV 7) (eC (.int 1)))) oN) (aC (e2 opAdd (e2 opAdd (eV 4) (eV 7)) (eC (.int 1))) (aC (eV 5) aN))))))))))))))
def R__law_fits : Nat → List D → Rs D
  | 0 => fun _ => .bad
  | n + 1 => fnOf 8 6 .e (F__law_fits (R__law_fits n) (R__law_cost n))
theorem S__law_fits (n : Nat) (ds : List D) : R__law_fits (n + 1) ds = fnOf 8 6 .e (F__law_fits (R__law_fits n) (R__law_cost n)) ds := rfl
def N_law_k06 : List Str := ["script", "many", "keys", "hits", "misses", "handed", "tree", "told", "price", "other"]
def F_law_k06 (r__law_many : List D → Rs D) (r__law_keys : List D → Rs D) (r__law_weights : List D → Rs D) (r_best : List D → Rs D) (r__law_cost : List D → Rs D) (r__law_tree : List D → Rs D) (r__law_cell_at : List D → Rs D) (r_worths : List D → Rs D) (r_roots : List D → Rs D) (r__law_fits : List D → Rs D) (r__law_is_tree : List D → Rs D) (r_least : List D → Rs D) : SEnv → Rs Fl :=
  (sSq (sAs 1 (eA r__law_many (aC (eA r__law_cell_at (aC (eV 0) (aC (eC (.int 0)) aN))) (aC (eC (.int 12)) aN))))
  (sSq (sAs 2 (eA r__law_keys (aC (eV 0) (aC (eV 1) aN))))
  (sSq (sAs 3 (eA r__law_weights (aC (eV 0) (aC (eC (.int 2)) (aC (eV 1) aN)))))
  (sSq (sAs 4 (eA r__law_weights (aC (eV 0) (aC (eC (.int 15)) (aC (e2 opAdd (eV 1) (eC (.int 1))) aN)))))
  (sSq (sAs 5 (eA mkL (aC (eA opList (aC (eV 2) aN)) (aC (eA opList (aC (eV 3) aN)) (aC (eA opList (aC (eV 4) aN)) aN)))))
  (sSq (sAs 6 (eA r_best (aC (e2 opIx (eV 5) (eC (.int 0))) (aC (e2 opIx (eV 5) (eC (.int 1))) (aC (e2 opIx (eV 5) (eC (.int 2))) aN)))))
  (sSq (sIf (bOr (bNot (bE (eA r__law_is_tree (aC (eV 6) (aC (eV 2) aN))))) (bE (e2 opNe (eV 5) (eA mkL (aC (eV 2) (aC (eV 3) (aC (eV 4) aN))))))) (sRt (eC (.bool false))) sNx)
  (sSq (sAs 7 (eA mkL (aC (eN (eA r_worths (aC (e2 opIx (eV 5) (eC (.int 0))) (aC (e2 opIx (eV 5) (eC (.int 1))) (aC (e2 opIx (eV 5) (eC (.int 2))) aN))))) (aC (eN (eA r_roots (aC (e2 opIx (eV 5) (eC (.int 0))) (aC (e2 opIx (eV 5) (eC (.int 1))) (aC (e2 opIx (eV 5) (eC (.int 2))) aN))))) aN))))
  (sSq (sIf (bNot (bE (eA r__law_fits (aC (eV 6) (aC (eV 2) (aC (eV 3) (aC (eV 4) (aC (eC (.int 0)) (aC (eV 7) aN))))))))) (sRt (eC (.bool false))) sNx)
  (sSq (sAs 8 (eA r__law_cost (aC (eV 6) (aC (eV 2) (aC (eV 3) (aC (eV 4) (aC (eC (.int 0)) aN)))))))
  (sSq (sAs 9 (eA r__law_tree (aC (eV 2) (aC (eA r__law_cell_at (aC (eV 0) (aC (eC (.int 42)) aN))) (aC (eC (.int 0)) (aC (eV 1) aN))))))
  (sRt (eAnd (e2 opEq (eV 8) (eA r_least (aC (e2 opIx (eV 5) (eC (.int 0))) (aC (e2 opIx (eV 5) (eC (.int 1))) (aC (e2 opIx (eV 5) (eC (.int 2))) aN))))) (e2 opLe (eV 8) (eA r__law_cost (aC (eV 9) (aC (eV 2) (aC (eV 3) (aC (eV 4) (aC (eC (.int 0)) aN))))))))))))))))))))
def R_law_k06 : Nat → List D → Rs D
  | 0 => fun _ => .bad
  | n + 1 => fnOf 10 1 .e (F_law_k06 (R__law_many n) (R__law_keys n) (R__law_weights n) (R_best n) (R__law_cost n) (R__law_tree n) (R__law_cell_at n) (R_worths n) (R_roots n) (R__law_fits n) (R__law_is_tree n) (R_least n))
theorem S_law_k06 (n : Nat) (ds : List D) : R_law_k06 (n + 1) ds = fnOf 10 1 .e (F_law_k06 (R__law_many n) (R__law_keys n) (R__law_weights n) (R_best n) (R__law_cost n) (R__law_tree n) (R__law_cell_at n) (R_worths n) (R_roots n) (R__law_fits n) (R__law_is_tree n) (R_least n)) ds := rfl
def N__law_all : List Str := ["keys", "found", "place", "left", "right"]
def B1__law_all (r__law_all : List D → Rs D) : SEnv → Rs Fl :=
  (sXt 1 (eLc (zLst (eA r__law_all (aC (eSl opSlL (eV 0) (oS (e2 opAdd (eV 2) (eC (.int 1)))) oN) aN))) [4] 4 yesB (eA mkT (aC (e2 opIx (eV 0) (eV 2)) (aC (eV 3) (aC (eV 4) aN))))))
theorem x_B1__law_all (r__law_all : List D → Rs D) (env : SEnv) : B1__law_all r__law_all env =
  (sXt 1 (eLc (zLst (eA r__law_all (aC (eSl opSlL (eV 0) (oS (e2 opAdd (eV 2) (eC (.int 1)))) oN) aN))) [4] 4 yesB (eA mkT (aC (e2 opIx (eV 0) (eV 2)) (aC (eV 3) (aC (eV 4) aN)))))) env := rfl
def B2__law_all (r__law_all : List D → Rs D) : SEnv → Rs Fl :=
  (sFor (zLst (eA r__law_all (aC (eSl opSlL (eV 0) oN (oS (eV 2))) aN))) (gS1 3) (B1__law_all r__law_all))
theorem x_B2__law_all (r__law_all : List D → Rs D) (env : SEnv) : B2__law_all r__law_all env =
  (sFor (zLst (eA r__law_all (aC (eSl opSlL (eV 0) oN (oS (eV 2))) aN))) (gS1 3) (B1__law_all r__law_all)) env := rfl
def F__law_all (r__law_all : List D → Rs D) : SEnv → Rs Fl :=
  (sSq (sIf (bE (e2 opEq (eV 0) (eA mkL aN))) (sRt (eA mkL (aC (eC .none) aN))) sNx)
  (sSq (sNw 1 (eA mkL aN))
  (sSq (sFor (zR1 (eA opLen (aC (eV 0) aN))) (gS1 2) (B2__law_all r__law_all))
  (sRtV 1))))
def R__law_all : Nat → List D → Rs D
  | 0 => fun _ => .bad
  | n + 1 => fnOf 5 1 .o (F__law_all (R__law_all n))
theorem S__law_all (n : Nat) (ds : List D) : R__law_all (n + 1) ds = fnOf 5 1 .o (F__law_all (R__law_all n)) ds := rfl
def N_law_k07 : List Str := ["script", "many", "keys", "hits", "misses", "trees", "costs", "low", "tree"]
def F_law_k07 (r__law_keys : List D → Rs D) (r__law_weights : List D → Rs D) (r__law_all : List D → Rs D) (r_least : List D → Rs D) (r__law_cell_at : List D → Rs D) (r__law_cost : List D → Rs D) (r_best : List D → Rs D) (r__law_whole : List D → Rs D) : SEnv → Rs Fl :=
  (sSq (sAs 1 (e2 opMod (eA r__law_cell_at (aC (eV 0) (aC (eC (.int 0)) aN))) (eC (.int 6))))
  (sSq (sAs 2 (eA r__law_keys (aC (eV 0) (aC (eV 1) aN))))
  (sSq (sAs 3 (eA r__law_weights (aC (eV 0) (aC (eC (.int 2)) (aC (eV 1) aN)))))
  (sSq (sAs 4 (eA r__law_weights (aC (eV 0) (aC (eC (.int 15)) (aC (e2 opAdd (eV 1) (eC (.int 1))) aN)))))
  (sSq (sAs 5 (eA r__law_all (aC (eV 2) aN)))
  (sSq (sAs 6 (eLc (zLst (eV 5)) [8] 8 yesB (eA r__law_cost (aC (eV 8) (aC (eV 2) (aC (eV 3) (aC (eV 4) (aC (eC (.int 0)) aN))))))))
  (sSq (sAs 7 (eA r_least (aC (eA opList (aC (eV 2) aN)) (aC (eA opList (aC (eV 3) aN)) (aC (eA opList (aC (eV 4) aN)) aN)))))
  (sSq (sIf (bOr (bNot (bE (eA r__law_whole (aC (eV 7) aN)))) (bE (e2 opNe (eV 7) (eA opMin (aC (eV 6) aN))))) (sRt (eC (.bool false))) sNx)
  (sRt (e2 opEq (eA r_best (aC (eA opList (aC (eV 2) aN)) (aC (eA opList (aC (eV 3) aN)) (aC (eA opList (aC (eV 4) aN)) aN)))) (e2 opIx (eV 5) (eIndex (eV 6) (aC (eV 7) aN)))))))))))))
def R_law_k07 : Nat → List D → Rs D
  | 0 => fun _ => .bad
  | n + 1 => fnOf 9 1 .e (F_law_k07 (R__law_keys n) (R__law_weights n) (R__law_all n) (R_least n) (R__law_cell_at n) (R__law_cost n) (R_best n) (R__law_whole n))
theorem S_law_k07 (n : Nat) (ds : List D) : R_law_k07 (n + 1) ds = fnOf 9 1 .e (F_law_k07 (R__law_keys n) (R__law_weights n) (R__law_all n) (R_least n) (R__law_cell_at n) (R__law_cost n) (R_best n) (R__law_whole n)) ds := rfl
def N__law_due_k08 : List Str := ["found", "hits", "misses", "first", "last", "whole", "place", "left", "right"]
def B1__law_due_k08 : SEnv → Rs Fl :=
  (sSq (sAs 7 (e2 opIx (e2 opIx (eV 0) (eV 3)) (e2 opSub (eV 6) (eV 3))))
  (sSq (sAs 8 (e2 opIx (e2 opIx (eV 0) (e2 opAdd (eV 6) (eC (.int 1)))) (e2 opSub (e2 opSub (eV 4) (eV 6)) (eC (.int 1)))))
  (sIf (bE (e2 opEq (e2 opAdd (e2 opAdd (eV 5) (eV 7)) (eV 8)) (e2 opIx (e2 opIx (eV 0) (eV 3)) (e2 opSub (eV 4) (eV 3))))) (sRt (eV 6)) sNx)))
theorem x_B1__law_due_k08 (env : SEnv) : B1__law_due_k08 env =
  (sSq (sAs 7 (e2 opIx (e2 opIx (eV 0) (eV 3)) (e2 opSub (eV 6) (eV 3))))
  (sSq (sAs 8 (e2 opIx (e2 opIx (eV 0) (e2 opAdd (eV 6) (eC (.int 1)))) (e2 opSub (e2 opSub (eV 4) (eV 6)) (eC (.int 1)))))
  (sIf (bE (e2 opEq (e2 opAdd (e2 opAdd (eV 5) (eV 7)) (eV 8)) (e2 opIx (e2 opIx (eV 0) (eV 3)) (e2 opSub (eV 4) (eV 3))))) (sRt (eV 6)) sNx))) env := rfl
def F__law_due_k08 : SEnv → Rs Fl :=
  (sSq (sAs 5 (e2 opAdd (eA opSum (aC (eSl opSlL (eV 1) (oS (eV 3)) (oS (eV 4))) aN)) (eA opSum (aC (eSl opSlL (eV 2) (oS (eV 3)) (oS (e2 opAdd (eV 4) (eC (.int 1))))) aN))))
  (sSq (sFor (zR2 (eV 3) (eV 4)) (gS1 6) (B1__law_due_k08))
  (sRt (e1 opNeg (eC (.int 1))))))
def R__law_due_k08 : Nat → List D → Rs D
  | 0 => fun _ => .bad
  | n + 1 => fnOf 9 5 .e (F__law_due_k08)
theorem S__law_due_k08 (n : Nat) (ds : List D) : R__law_due_k08 (n + 1) ds = fnOf 9 5 .e (F__law_due_k08) ds := rfl
def N_law_k08 : List Str := ["script", "many", "keys", "hits", "misses", "table", "due", "first", "handed", "turn", "found", "last"]
def B1_law_k08 (r__law_many : List D → Rs D) (r__law_keys : List D → Rs D) (r__law_weights : List D → Rs D) (r_worths : List D → Rs D) (r__law_cell_at : List D → Rs D) (r_roots : List D → Rs D) (r__law_due_k08 : List D → Rs D) (r__law_rows_are : List D → Rs D) : SEnv → Rs Fl :=
  (sAp 6 (eLc (zR2 (e2 opAdd (eV 7) (eC (.int 1))) (e2 opAdd (eV 1) (eC (.int 1)))) [11] 11 yesB (eA r__law_due_k08 (aC (eV 5) (aC (eV 3) (aC (eV 4) (aC (eV 7) (aC (eV 11) aN))))))))
theorem x_B1_law_k08 (r__law_many : List D → Rs D) (r__law_keys : List D → Rs D) (r__law_weights : List D → Rs D) (r_worths : List D → Rs D) (r__law_cell_at : List D → Rs D) (r_roots : List D → Rs D) (r__law_due_k08 : List D → Rs D) (r__law_rows_are : List D → Rs D) (env : SEnv) : B1_law_k08 r__law_many r__law_keys r__law_weights r_worths r__law_cell_at r_roots r__law_due_k08 r__law_rows_are env =
  (sAp 6 (eLc (zR2 (e2 opAdd (eV 7) (eC (.int 1))) (e2 opAdd (eV 1) (eC (.int 1)))) [11] 11 yesB (eA r__law_due_k08 (aC (eV 5) (aC (eV 3) (aC (eV 4) (aC (eV 7) (aC (eV 11) aN)))))))) env := rfl
def B2_law_k08 (r__law_many : List D → Rs D) (r__law_keys : List D → Rs D) (r__law_weights : List D → Rs D) (r_worths : List D → Rs D) (r__law_cell_at : List D → Rs D) (r_roots : List D → Rs D) (r__law_due_k08 : List D → Rs D) (r__law_rows_are : List D → Rs D) : SEnv → Rs Fl :=
  (sSq (sNn 10 (eA r_roots (aC (e2 opIx (eV 8) (eC (.int 0))) (aC (e2 opIx (eV 8) (eC (.int 1))) (aC (e2 opIx (eV 8) (eC (.int 2))) aN)))))
  (sSq (sIf (bOr (bNot (bE (eA r__law_rows_are (aC (eV 10) (aC (eV 6) aN))))) (bE (e2 opNe (eV 8) (eA mkL (aC (eV 2) (aC (eV 3) (aC (eV 4) aN))))))) (sRt (eC (.bool false))) sNx)
  (sSq (sIf (bE (e2 opGt (eV 1) (eC (.int 0)))) (sNit 10 (eC (.int 0)) (eC (.int 0)) (eC (.int 50))) sNx)
  (sNp 10 (eA mkL aN)))))
theorem x_B2_law_k08 (r__law_many : List D → Rs D) (r__law_keys : List D → Rs D) (r__law_weights : List D → Rs D) (r_worths : List D → Rs D) (r__law_cell_at : List D → Rs D) (r_roots : List D → Rs D) (r__law_due_k08 : List D → Rs D) (r__law_rows_are : List D → Rs D) (env : SEnv) : B2_law_k08 r__law_many r__law_keys r__law_weights r_worths r__law_cell_at r_roots r__law_due_k08 r__law_rows_are env =
  (sSq (sNn 10 (eA r_roots (aC (e2 opIx (eV 8) (eC (.int 0))) (aC (e2 opIx (eV 8) (eC (.int 1))) (aC (e2 opIx (eV 8) (eC (.int 2))) aN)))))
  (sSq (sIf (bOr (bNot (bE (eA r__law_rows_are (aC (eV 10) (aC (eV 6) aN))))) (bE (e2 opNe (eV 8) (eA mkL (aC (eV 2) (aC (eV 3) (aC (eV 4) aN))))))) (sRt (eC (.bool false))) sNx)
  (sSq (sIf (bE (e2 opGt (eV 1) (eC (.int 0)))) (sNit 10 (eC (.int 0)) (eC (.int 0)) (eC (.int 50))) sNx)
  (sNp 10 (eA mkL aN))))) env := rfl
def F_law_k08 (r__law_many : List D → Rs D) (r__law_keys : List D → Rs D) (r__law_weights : List D → Rs D) (r_worths : List D → Rs D) (r__law_cell_at : List D → Rs D) (r_roots : List D → Rs D) (r__law_due_k08 : List D → Rs D) (r__law_rows_are : List D → Rs D) : SEnv → Rs Fl :=
  (sSq (sAs 1 (eA r__law_many (aC (eA r__law_cell_at (aC (eV 0) (aC (eC (.int 0)) aN))) (aC (eC (.int 12)) aN))))
  (sSq (sAs 2 (eA r__law_keys (aC (eV 0) (aC (eV 1) aN))))
  (sSq (sAs 3 (eA r__law_weights (aC (eV 0) (aC (eC (.int 2)) (aC (eV 1) aN)))))
  (sSq (sAs 4 (eA r__law_weights (aC (eV 0) (aC (eC (.int 15)) (aC (e2 opAdd (eV 1) (eC (.int 1))) aN)))))
  (sSq (sAs 5 (eN (eA r_worths (aC (eA opList (aC (eV 2) aN)) (aC (eA opList (aC (eV 3) aN)) (aC (eA opList (aC (eV 4) aN)) aN))))))
  (sSq (sNw 6 (eA mkL aN))
  (sSq (sFor (zR1 (eV 1)) (gS1 7) (B1_law_k08 r__law_many r__law_keys r__law_weights r_worths r__law_cell_at r_roots r__law_due_k08 r__law_rows_are))
  (sSq (sAs 8 (eA mkL (aC (eA opList (aC (eV 2) aN)) (aC (eA opList (aC (eV 3) aN)) (aC (eA opList (aC (eV 4) aN)) aN)))))
  (sSq (sFor (zR1 (eC (.int 2))) (gS1 9) (B2_law_k08 r__law_many r__law_keys r__law_weights r_worths r__law_cell_at r_roots r__law_due_k08 r__law_rows_are))
  (sRt (eC (.bool true))))))))))))
def R_law_k08 : Nat → List D → Rs D
  | 0 => fun _ => .bad
  | n + 1 => fnOf 12 1 .e (F_law_k08 (R__law_many n) (R__law_keys n) (R__law_weights n) (R_worths n) (R__law_cell_at n) (R_roots n) (R__law_due_k08 n) (R__law_rows_are n))
theorem S_law_k08 (n : Nat) (ds : List D) : R_law_k08 (n + 1) ds = fnOf 12 1 .e (F_law_k08 (R__law_many n) (R__law_keys n) (R__law_weights n) (R_worths n) (R__law_cell_at n) (R_roots n) (R__law_due_k08 n) (R__law_rows_are n)) ds := rfl
def N_law_k09 : List Str := ["script", "many", "keys", "hits", "misses", "table", "first", "last", "here"]
def B1_law_k09 (r__law_many : List D → Rs D) (r__law_keys : List D → Rs D) (r__law_weights : List D → Rs D) (r_roots : List D → Rs D) (r__law_cell_at : List D → Rs D) (r__law_whole : List D → Rs D) : SEnv → Rs Fl :=
  (sSq (sAs 8 (e2 opIx (e2 opIx (eV 5) (eV 6)) (e2 opSub (e2 opSub (eV 7) (eV 6)) (eC (.int 1)))))
  (sSq (sIf (bOr (bNot (bE (eA r__law_whole (aC (eV 8) aN)))) (bNot (bE (eCh opLe opLt (eV 6) (eV 8) (eV 7))))) (sRt (eC (.bool false))) sNx)
  (sIf (bE (e2 opGt (e2 opSub (eV 7) (eV 6)) (eC (.int 1)))) (sIf (bOr (bE (e2 opLt (eV 8) (e2 opIx (e2 opIx (eV 5) (eV 6)) (e2 opSub (e2 opSub (eV 7) (eV 6)) (eC (.int 2)))))) (bE (e2 opGt (eV 8) (e2 opIx (e2 opIx (eV 5) (e2 opAdd (eV 6) (eC (.int 1)))) (e2 opSub (e2 opSub (eV 7) (eV 6)) (eC (.int 2))))))) (sRt (eC (.bool false))) sNx) sNx)))
theorem x_B1_law_k09 (r__law_many : List D → Rs D) (r__law_keys : List D → Rs D) (r__law_weights : List D → Rs D) (r_roots : List D → Rs D) (r__law_cell_at : List D → Rs D) (r__law_whole : List D → Rs D) (env : SEnv) : B1_law_k09 r__law_many r__law_keys r__law_weights r_roots r__law_cell_at r__law_whole env =
  (sSq (sAs 8 (e2 opIx (e2 opIx (eV 5) (eV 6)) (e2 opSub (e2 opSub (eV 7) (eV 6)) (eC (.int 1)))))
  (sSq (sIf (bOr (bNot (bE (eA r__law_whole (aC (eV 8) aN)))) (bNot (bE (eCh opLe opLt (eV 6) (eV 8) (eV 7))))) (sRt (eC (.bool false))) sNx)
  (sIf (bE (e2 opGt (e2 opSub (eV 7) (eV 6)) (eC (.int 1)))) (sIf (bOr (bE (e2 opLt (eV 8) (e2 opIx (e2 opIx (eV 5) (eV 6)) (e2 opSub (e2 opSub (eV 7) (eV 6)) (eC (.int 2)))))) (bE (e2 opGt (eV 8) (e2 opIx (e2 opIx (eV 5) (e2 opAdd (eV 6) (eC (.int 1)))) (e2 opSub (e2 opSub (eV 7) (eV 6)) (eC (.int 2))))))) (sRt (eC (.bool false))) sNx) sNx))) env := rfl
def B2_law_k09 (r__law_many : List D → Rs D) (r__law_keys : List D → Rs D) (r__law_weights : List D → Rs D) (r_roots : List D → Rs D) (r__law_cell_at : List D → Rs D) (r__law_whole : List D → Rs D) : SEnv → Rs Fl :=
  (sFor (zR2 (e2 opAdd (eV 6) (eC (.int 1))) (e2 opAdd (eV 1) (eC (.int 1)))) (gS1 7) (B1_law_k09 r__law_many r__law_keys r__law_weights r_roots r__law_cell_at r__law_whole))
theorem x_B2_law_k09 (r__law_many : List D → Rs D) (r__law_keys : List D → Rs D) (r__law_weights : List D → Rs D) (r_roots : List D → Rs D) (r__law_cell_at : List D → Rs D) (r__law_whole : List D → Rs D) (env : SEnv) : B2_law_k09 r__law_many r__law_keys r__law_weights r_roots r__law_cell_at r__law_whole env =
  (sFor (zR2 (e2 opAdd (eV 6) (eC (.int 1))) (e2 opAdd (eV 1) (eC (.int 1)))) (gS1 7) (B1_law_k09 r__law_many r__law_keys r__law_weights r_roots r__law_cell_at r__law_whole)) env := rfl
def F_law_k09 (r__law_many : List D → Rs D) (r__law_keys : List D → Rs D) (r__law_weights : List D → Rs D) (r_roots : List D → Rs D) (r__law_cell_at : List D → Rs D) (r__law_whole : List D → Rs D) : SEnv → Rs Fl :=
  (sSq (sAs 1 (eA r__law_many (aC (eA r__law_cell_at (aC (eV 0) (aC (eC (.int 0)) aN))) (aC (eC (.int 12)) aN))))
  (sSq (sAs 2 (eA r__law_keys (aC (eV 0) (aC (eV 1) aN))))
  (sSq (sAs 3 (eA r__law_weights (aC (eV 0) (aC (eC (.int 2)) (aC (eV 1) aN)))))
  (sSq (sAs 4 (eA r__law_weights (aC (eV 0) (aC (eC (.int 15)) (aC (e2 opAdd (eV 1) (eC (.int 1))) aN)))))
  (sSq (sAs 5 (eN (eA r_roots (aC (eA opList (aC (eV 2) aN)) (aC (eA opList (aC (eV 3) aN)) (aC (eA opList (aC (eV 4) aN)) aN))))))
  (sSq (sFor (zR1 (eV 1)) (gS1 6) (B2_law_k09 r__law_many r__law_keys r__law_weights r_roots r__law_cell_at r__law_whole))
  (sRt (eC (.bool true)))))))))
def R_law_k09 : Nat → List D → Rs D
  | 0 => fun _ => .bad
  | n + 1 => fnOf 9 1 .e (F_law_k09 (R__law_many n) (R__law_keys n) (R__law_weights n) (R_roots n) (R__law_cell_at n) (R__law_whole n))
theorem S_law_k09 (n : Nat) (ds : List D) : R_law_k09 (n + 1) ds = fnOf 9 1 .e (F_law_k09 (R__law_many n) (R__law_keys n) (R__law_weights n) (R_roots n) (R__law_cell_at n) (R__law_whole n)) ds := rfl
def N__law_size : List Str := ["tree"]
def F__law_size (r__law_size : List D → Rs D) : SEnv → Rs Fl :=
  (sSq (sIf (bE (e2 opIs (eV 0) (eC .none))) (sRt (eC (.int 0))) sNx)
  (sRt (e2 opAdd (e2 opAdd (eA r__law_size (aC (e2 opIx (eV 0) (eC (.int 1))) aN)) (eC (.int 1))) (eA r__law_size (aC (e2 opIx (eV 0) (eC (.int 2))) aN)))))
def R__law_size : Nat → List D → Rs D
  | 0 => fun _ => .bad
  | n + 1 => fnOf 1 1 .e (F__law_size (R__law_size n))
theorem S__law_size (n : Nat) (ds : List D) : R__law_size (n + 1) ds = fnOf 1 1 .e (F__law_size (R__law_size n)) ds := rfl
def N__law_gap_steps : List Str := ["tree", "gap", "size"]
def F__law_gap_steps (r__law_size : List D → Rs D) (r__law_gap_steps : List D → Rs D) : SEnv → Rs Fl :=
  (sSq (sIf (bE (e2 opIs (eV 0) (eC .none))) (sRt (eC (.int 0))) sNx)
  (sSq (sAs 2 (eA r__law_size (aC (e2 opIx (eV 0) (eC (.int 1))) aN)))
  (sSq (sIf (bE (e2 opLe (eV 1) (eV 2))) (sRt (e2 opAdd (eC (.int 1)) (eA r__law_gap_steps (aC (e2 opIx (eV 0) (eC (.int 1))) (aC (eV 1) aN))))) sNx)
  (sRt (e2 opAdd (eC (.int 1)) (eA r__law_gap_steps (aC (e2 opIx (eV 0) (eC (.int 2))) (aC (e2 opSub (e2 opSub (eV 1) (eV 2)) (eC (.int 1))) aN))))))))
def R__law_gap_steps : Nat → List D → Rs D
  | 0 => fun _ => .bad
  | n + 1 => fnOf 3 2 .e (F__law_gap_steps (R__law_size n) (R__law_gap_steps n))
theorem S__law_gap_steps (n : Nat) (ds : List D) : R__law_gap_steps (n + 1) ds = fnOf 3 2 .e (F__law_gap_steps (R__law_size n) (R__law_gap_steps n)) ds := rfl
def N_law_k10 : List Str := ["script", "many", "keys", "hits", "misses", "tree", "low", "more", "place", "steps", "now", "weight"]
def F_law_k10 (r__law_keys : List D → Rs D) (r_best : List D → Rs D) (r_least : List D → Rs D) (r__law_many : List D → Rs D) (r__law_cell_at : List D → Rs D) (r__law_steps : List D → Rs D) (r__law_gap_steps : List D → Rs D) (r__law_whole : List D → Rs D) (r__law_weights : List D → Rs D) : SEnv → Rs Fl :=
  (sSq (sAs 1 (eA opMax (aC (eC (.int 1)) (aC (eA r__law_many (aC (eA r__law_cell_at (aC (eV 0) (aC (eC (.int 0)) aN))) (aC (eC (.int 12)) aN))) aN))))
  (sSq (sAs 2 (eA r__law_keys (aC (eV 0) (aC (eV 1) aN))))
  (sSq (sNw 3 (eLc (zLst (eA r__law_weights (aC (eV 0) (aC (eC (.int 2)) (aC (eV 1) aN))))) [11] 11 yesB (eA opMin (aC (eC (.int 999900)) (aC (eV 11) aN)))))
  (sSq (sNw 4 (eLc (zLst (eA r__law_weights (aC (eV 0) (aC (eC (.int 15)) (aC (e2 opAdd (eV 1) (eC (.int 1))) aN))))) [11] 11 yesB (eA opMin (aC (eC (.int 999900)) (aC (eV 11) aN)))))
  (sSq (sAsB 5 (eA r_best (aC (eA opList (aC (eV 2) aN)) (aC (eA opList (aC (eV 3) aN)) (aC (eA opList (aC (eV 4) aN)) aN)))))
  (sSq (sAsB 6 (eA r_least (aC (eA opList (aC (eV 2) aN)) (aC (eA opList (aC (eV 3) aN)) (aC (eA opList (aC (eV 4) aN)) aN)))))
  (sSq (sAs 7 (e2 opMod (eA r__law_cell_at (aC (eV 0) (aC (eC (.int 43)) aN))) (eC (.int 100))))
  (sSq (sAs 8 (e2 opMod (eA r__law_cell_at (aC (eV 0) (aC (eC (.int 44)) aN))) (e2 opAdd (e2 opMul (eC (.int 2)) (eV 1)) (eC (.int 1)))))
  (sSq (sIf (bE (e2 opLt (eV 8) (eV 1))) (sSq (sIt 3 (eV 8) (e2 opAdd (e2 opIx (eV 3) (eV 8)) (eV 7)))
  (sAs 9 (eA r__law_steps (aC (eV 5) (aC (e2 opIx (eV 2) (eV 8)) aN))))) (sSq (sIt 4 (e2 opSub (eV 8) (eV 1)) (e2 opAdd (e2 opIx (eV 4) (e2 opSub (eV 8) (eV 1))) (eV 7)))
  (sAs 9 (eA r__law_gap_steps (aC (eV 5) (aC (e2 opSub (eV 8) (eV 1)) aN))))))
  (sSq (sAsB 10 (eA r_least (aC (eA opList (aC (eV 2) aN)) (aC (eA opList (aC (eV 3) aN)) (aC (eA opList (aC (eV 4) aN)) aN)))))
  (sRt (eAnd (eA r__law_whole (aC (eV 10) aN)) (eCh opLe opLe (eV 6) (eV 10) (e2 opAdd (eV 6) (e2 opMul (eV 7) (eV 9))))))))))))))))
def R_law_k10 : Nat → List D → Rs D
  | 0 => fun _ => .bad
  | n + 1 => fnOf 12 1 .e (F_law_k10 (R__law_keys n) (R_best n) (R_least n) (R__law_many n) (R__law_cell_at n) (R__law_steps n) (R__law_gap_steps n) (R__law_whole n) (R__law_weights n))
theorem S_law_k10 (n : Nat) (ds : List D) : R_law_k10 (n + 1) ds = fnOf 12 1 .e (F_law_k10 (R__law_keys n) (R_best n) (R_least n) (R__law_many n) (R__law_cell_at n) (R__law_steps n) (R__law_gap_steps n) (R__law_whole n) (R__law_weights n)) ds := rfl
def N_law_k11 : List Str := ["script", "many", "keys", "hits", "misses", "low", "by", "tall", "weight"]
def F_law_k11 (r__law_many : List D → Rs D) (r__law_keys : List D → Rs D) (r_least : List D → Rs D) (r__law_cell_at : List D → Rs D) (r_best : List D → Rs D) (r__law_weights : List D → Rs D) (r__law_whole : List D → Rs D) : SEnv → Rs Fl :=
  (sSq (sAs 1 (eA r__law_many (aC (eA r__law_cell_at (aC (eV 0) (aC (eC (.int 0)) aN))) (aC (eC (.int 12)) aN))))
  (sSq (sAs 2 (eA r__law_keys (aC (eV 0) (aC (eV 1) aN))))
  (sSq (sAs 3 (eLc (zLst (eA r__law_weights (aC (eV 0) (aC (eC (.int 2)) (aC (eV 1) aN))))) [8] 8 yesB (e2 opMod (eV 8) (eC (.int 100001)))))
  (sSq (sAs 4 (eLc (zLst (eA r__law_weights (aC (eV 0) (aC (eC (.int 15)) (aC (e2 opAdd (eV 1) (eC (.int 1))) aN))))) [8] 8 yesB (e2 opMod (eV 8) (eC (.int 100001)))))
  (sSq (sAs 5 (eA r_least (aC (eA opList (aC (eV 2) aN)) (aC (eA opList (aC (eV 3) aN)) (aC (eA opList (aC (eV 4) aN)) aN)))))
  (sSq (sIf (bOr (bNot (bE (eA r__law_whole (aC (eV 5) aN)))) (bE (e2 opNe (eA r_least (aC (eA opList (aC (eV 2) aN)) (aC (e1 opRev (eV 3)) (aC (e1 opRev (eV 4)) aN)))) (eV 5)))) (sRt (eC (.bool false))) sNx)
  (sSq (sAs 6 (e2 opAdd (eC (.int 2)) (e2 opMod (eA r__law_cell_at (aC (eV 0) (aC (eC (.int 43)) aN))) (eC (.int 8)))))
  (sSq (sAs 7 (eA mkL (aC (eLc (zLst (eV 3)) [8] 8 yesB (e2 opMul (eV 6) (eV 8))) (aC (eLc (zLst (eV 4)) [8] 8 yesB (e2 opMul (eV 6) (eV 8))) aN))))
  (sSq (sIf (bE (e2 opNe (eA r_least (aC (eA opList (aC (eV 2) aN)) (aC (eA opList (aC (e2 opIx (eV 7) (eC (.int 0))) aN)) (aC (eA opList (aC (e2 opIx (eV 7) (eC (.int 1))) aN)) aN)))) (e2 opMul (eV 6) (eV 5)))) (sRt (eC (.bool false))) sNx)
  (sRt (e2 opEq (eA r_best (aC (eA opList (aC (eV 2) aN)) (aC (e2 opIx (eV 7) (eC (.int 0))) (aC (e2 opIx (eV 7) (eC (.int 1))) aN)))) (eA r_best (aC (eA opList (aC (eV 2) aN)) (aC (eA opList (aC (eV 3) aN)) (aC (eA opList (aC (eV 4) aN)) aN)))))))))))))))
def R_law_k11 : Nat → List D → Rs D
  | 0 => fun _ => .bad
  | n + 1 => fnOf 9 1 .e (F_law_k11 (R__law_many n) (R__law_keys n) (R_least n) (R__law_cell_at n) (R_best n) (R__law_weights n) (R__law_whole n))
theorem S_law_k11 (n : Nat) (ds : List D) : R_law_k11 (n + 1) ds = fnOf 9 1 .e (F_law_k11 (R__law_many n) (R__law_keys n) (R_least n) (R__law_cell_at n) (R_best n) (R__law_weights n) (R__law_whole n)) ds := rfl
def N_halved : List Str := ["keys", "place"]
def F_halved (r_halved : List D → Rs D) : SEnv → Rs Fl :=
  (sSq (sIf (bE (e2 opEq (eA opLen (aC (eV 0) aN)) (eC (.int 0)))) (sRt (eC .none)) sNx)
  (sSq (sAs 1 (e2 opDiv (eA opLen (aC (eV 0) aN)) (eC (.int 2))))
  (sRt (eA mkT (aC (e2 opIx (eV 0) (eV 1)) (aC (eA r_halved (aC (eSl opSlL (eV 0) oN (oS (eV 1))) aN)) (aC (eA r_halved (aC (eSl opSlL (eV 0) (oS (e2 opAdd (eV 1) (eC (.int 1)))) oN) aN)) aN)))))))
def R_halved : Nat → List D → Rs D
  | 0 => fun _ => .bad
  | n + 1 => fnOf 2 1 .e (F_halved (R_halved n))
theorem S_halved (n : Nat) (ds : List D) : R_halved (n + 1) ds = fnOf 2 1 .e (F_halved (R_halved n)) ds := rfl
def N_even : List Str := ["keys"]
def F_even (r_ask_keys : List D → Rs D) (r_halved : List D → Rs D) : SEnv → Rs Fl :=
  (sSq (sEx (eA r_ask_keys (aC (eV 0) aN)))
  (sRt (eA r_halved (aC (eA opList (aC (eV 0) aN)) aN))))
def R_even : Nat → List D → Rs D
  | 0 => fun _ => .bad
  | n + 1 => fnOf 1 1 .e (F_even (R_ask_keys n) (R_halved n))
theorem S_even (n : Nat) (ds : List D) : R_even (n + 1) ds = fnOf 1 1 .e (F_even (R_ask_keys n) (R_halved n)) ds := rfl
def N_height : List Str := ["tree"]
def F_height (r_height : List D → Rs D) : SEnv → Rs Fl :=
  (sSq (sIf (bE (e2 opIs (eV 0) (eC .none))) (sRt (eC (.int 0))) sNx)
  (sRt (e2 opAdd (eC (.int 1)) (eA opMax (aC (eA r_height (aC (e2 opIx (eV 0) (eC (.int 1))) aN)) (aC (eA r_height (aC (e2 opIx (eV 0) (eC (.int 2))) aN)) aN))))))
def R_height : Nat → List D → Rs D
  | 0 => fun _ => .bad
  | n + 1 => fnOf 1 1 .e (F_height (R_height n))
theorem S_height (n : Nat) (ds : List D) : R_height (n + 1) ds = fnOf 1 1 .e (F_height (R_height n)) ds := rfl
def N_most_steps : List Str := ["keys", "tree"]
def F_most_steps (r_ask_keys : List D → Rs D) (r_ask_tree : List D → Rs D) (r_height : List D → Rs D) : SEnv → Rs Fl :=
  (sSq (sEx (eA r_ask_keys (aC (eV 0) aN)))
  (sSq (sEx (eA r_ask_tree (aC (eV 0) (aC (eV 1) aN))))
  (sRt (eA r_height (aC (eV 1) aN)))))
def R_most_steps : Nat → List D → Rs D
  | 0 => fun _ => .bad
  | n + 1 => fnOf 2 2 .e (F_most_steps (R_ask_keys n) (R_ask_tree n) (R_height n))
theorem S_most_steps (n : Nat) (ds : List D) : R_most_steps (n + 1) ds = fnOf 2 2 .e (F_most_steps (R_ask_keys n) (R_ask_tree n) (R_height n)) ds := rfl
def N__law_height : List Str := ["tree"]
def F__law_height (r__law_height : List D → Rs D) : SEnv → Rs Fl :=
  (sSq (sIf (bE (e2 opIs (eV 0) (eC .none))) (sRt (eC (.int 0))) sNx)
  (sRt (e2 opAdd (eC (.int 1)) (eA opMax (aC (eA r__law_height (aC (e2 opIx (eV 0) (eC (.int 1))) aN)) (aC (eA r__law_height (aC (e2 opIx (eV 0) (eC (.int 2))) aN)) aN))))))
def R__law_height : Nat → List D → Rs D
  | 0 => fun _ => .bad
  | n + 1 => fnOf 1 1 .e (F__law_height (R__law_height n))
theorem S__law_height (n : Nat) (ds : List D) : R__law_height (n + 1) ds = fnOf 1 1 .e (F__law_height (R__law_height n)) ds := rfl
def N_law_k12 : List Str := ["script", "many", "keys", "handed", "tree", "due", "other", "found"]
def F_law_k12 (r__law_many : List D → Rs D) (r__law_keys : List D → Rs D) (r_even : List D → Rs D) (r__law_tree : List D → Rs D) (r_most_steps : List D → Rs D) (r__law_cell_at : List D → Rs D) (r__law_whole : List D → Rs D) (r__law_is_tree : List D → Rs D) (r__law_height : List D → Rs D) : SEnv → Rs Fl :=
  (sSq (sAs 1 (eA r__law_many (aC (eA r__law_cell_at (aC (eV 0) (aC (eC (.int 0)) aN))) (aC (eC (.int 12)) aN))))
  (sSq (sAs 2 (eA r__law_keys (aC (eV 0) (aC (eV 1) aN))))
  (sSq (sAs 3 (eA opList (aC (eV 2) aN)))
  (sSq (sAs 4 (eA r_even (aC (eV 3) aN)))
  (sSq (sIf (bOr (bNot (bE (eA r__law_is_tree (aC (eV 4) (aC (eV 2) aN))))) (bE (e2 opNe (eV 3) (eV 2)))) (sRt (eC (.bool false))) sNx)
  (sSq (sAs 5 (e2 opIx (eA mkL (aC (eC (.int 0)) (aC (eC (.int 1)) (aC (eC (.int 2)) (aC (eC (.int 2)) (aC (eC (.int 3)) (aC (eC (.int 3)) (aC (eC (.int 3)) (aC (eC (.int 3)) (aC (eC (.int 4)) (aC (eC (.int 4)) (aC (eC (.int 4)) (aC (eC (.int 4)) (aC (eC (.int 4)) aN)))))))))))))) (eV 1)))
  (sSq (sIf (bOr (bE (e2 opNe (eA r__law_height (aC (eV 4) aN)) (eV 5))) (bE (e2 opNe (eA r_most_steps (aC (eV 3) (aC (eV 4) aN))) (eV 5)))) (sRt (eC (.bool false))) sNx)
  (sSq (sAs 6 (eA r__law_tree (aC (eV 2) (aC (eA r__law_cell_at (aC (eV 0) (aC (eC (.int 42)) aN))) (aC (eC (.int 0)) (aC (eV 1) aN))))))
  (sSq (sAs 7 (eA r_most_steps (aC (eV 3) (aC (eV 6) aN))))
  (sRt (eAnd (eA r__law_whole (aC (eV 7) aN)) (eAnd (e2 opEq (eV 7) (eA r__law_height (aC (eV 6) aN))) (eAnd (e2 opGe (eV 7) (eV 5)) (e2 opEq (eV 3) (eV 2)))))))))))))))
def R_law_k12 : Nat → List D → Rs D
  | 0 => fun _ => .bad
  | n + 1 => fnOf 8 1 .e (F_law_k12 (R__law_many n) (R__law_keys n) (R_even n) (R__law_tree n) (R_most_steps n) (R__law_cell_at n) (R__law_whole n) (R__law_is_tree n) (R__law_height n))
theorem S_law_k12 (n : Nat) (ds : List D) : R_law_k12 (n + 1) ds = fnOf 8 1 .e (F_law_k12 (R__law_many n) (R__law_keys n) (R_even n) (R__law_tree n) (R_most_steps n) (R__law_cell_at n) (R__law_whole n) (R__law_is_tree n) (R__law_height n)) ds := rfl
def N_lifted_left : List Str := ["tree", "low"]
def F_lifted_left : SEnv → Rs Fl :=
  (sSq (sAs 1 (e2 opIx (eV 0) (eC (.int 1))))
  (sRt (eA mkT (aC (e2 opIx (eV 1) (eC (.int 0))) (aC (e2 opIx (eV 1) (eC (.int 1))) (aC (eA mkT (aC (e2 opIx (eV 0) (eC (.int 0))) (aC (e2 opIx (eV 1) (eC (.int 2))) (aC (e2 opIx (eV 0) (eC (.int 2))) aN)))) aN))))))
def R_lifted_left : Nat → List D → Rs D
  | 0 => fun _ => .bad
  | n + 1 => fnOf 2 1 .e (F_lifted_left)
theorem S_lifted_left (n : Nat) (ds : List D) : R_lifted_left (n + 1) ds = fnOf 2 1 .e (F_lifted_left) ds := rfl
def N_lifted_right : List Str := ["tree", "low"]
def F_lifted_right : SEnv → Rs Fl :=
  (sSq (sAs 1 (e2 opIx (eV 0) (eC (.int 2))))
  (sRt (eA mkT (aC (e2 opIx (eV 1) (eC (.int 0))) (aC (eA mkT (aC (e2 opIx (eV 0) (eC (.int 0))) (aC (e2 opIx (eV 0) (eC (.int 1))) (aC (e2 opIx (eV 1) (eC (.int 1))) aN)))) (aC (e2 opIx (eV 1) (eC (.int 2))) aN))))))
def R_lifted_right : Nat → List D → Rs D
  | 0 => fun _ => .bad
  | n + 1 => fnOf 2 1 .e (F_lifted_right)
theorem S_lifted_right (n : Nat) (ds : List D) : R_lifted_right (n + 1) ds = fnOf 2 1 .e (F_lifted_right) ds := rfl
def N_up : List Str := ["tree", "word"]
def F_up (r_lifted_right : List D → Rs D) (r_up : List D → Rs D) (r_lifted_left : List D → Rs D) : SEnv → Rs Fl :=
  (sSq (sIf (bE (e2 opLt (eV 1) (e2 opIx (eV 0) (eC (.int 0))))) (sSq (sIf (bE (e2 opEq (e2 opIx (e2 opIx (eV 0) (eC (.int 1))) (eC (.int 0))) (eV 1))) (sRt (eA r_lifted_left (aC (eV 0) aN))) sNx)
  (sRt (eA mkT (aC (e2 opIx (eV 0) (eC (.int 0))) (aC (eA r_up (aC (e2 opIx (eV 0) (eC (.int 1))) (aC (eV 1) aN))) (aC (e2 opIx (eV 0) (eC (.int 2))) aN)))))) sNx)
  (sSq (sIf (bE (e2 opEq (e2 opIx (e2 opIx (eV 0) (eC (.int 2))) (eC (.int 0))) (eV 1))) (sRt (eA r_lifted_right (aC (eV 0) aN))) sNx)
  (sRt (eA mkT (aC (e2 opIx (eV 0) (eC (.int 0))) (aC (e2 opIx (eV 0) (eC (.int 1))) (aC (eA r_up (aC (e2 opIx (eV 0) (eC (.int 2))) (aC (eV 1) aN))) aN)))))))
def R_up : Nat → List D → Rs D
  | 0 => fun _ => .bad
  | n + 1 => fnOf 2 2 .e (F_up (R_lifted_right n) (R_up n) (R_lifted_left n))
theorem S_up (n : Nat) (ds : List D) : R_up (n + 1) ds = fnOf 2 2 .e (F_up (R_lifted_right n) (R_up n) (R_lifted_left n)) ds := rfl
def N_turned : List Str := ["keys", "tree", "word"]
def F_turned (r_ask_keys : List D → Rs D) (r_ask_tree : List D → Rs D) (r_up : List D → Rs D) : SEnv → Rs Fl :=
  (sSq (sEx (eA r_ask_keys (aC (eV 0) aN)))
  (sSq (sEx (eA r_ask_tree (aC (eV 0) (aC (eV 1) aN))))
  (sSq (sIf (bE (e2 opNi (eV 2) (eV 0))) (sRaise "NoKey") sNx)
  (sSq (sIf (bE (e2 opEq (e2 opIx (eV 1) (eC (.int 0))) (eV 2))) (sRaise "AtRoot") sNx)
  (sRt (eA r_up (aC (eV 1) (aC (eV 2) aN))))))))
def R_turned : Nat → List D → Rs D
  | 0 => fun _ => .bad
  | n + 1 => fnOf 3 3 .e (F_turned (R_ask_keys n) (R_ask_tree n) (R_up n))
theorem S_turned (n : Nat) (ds : List D) : R_turned (n + 1) ds = fnOf 3 3 .e (F_turned (R_ask_keys n) (R_ask_tree n) (R_up n)) ds := rfl
def N__law_row : List Str := ["tree"]
def F__law_row (r__law_row : List D → Rs D) : SEnv → Rs Fl :=
  (sSq (sIf (bE (e2 opIs (eV 0) (eC .none))) (sRt (eA mkL aN)) sNx)
  (sRt (e2 opCat (e2 opCat (eA r__law_row (aC (e2 opIx (eV 0) (eC (.int 1))) aN)) (eA mkL (aC (e2 opIx (eV 0) (eC (.int 0))) aN))) (eA r__law_row (aC (e2 opIx (eV 0) (eC (.int 2))) aN)))))
def R__law_row : Nat → List D → Rs D
  | 0 => fun _ => .bad
  | n + 1 => fnOf 1 1 .o (F__law_row (R__law_row n))
theorem S__law_row (n : Nat) (ds : List D) : R__law_row (n + 1) ds = fnOf 1 1 .o (F__law_row (R__law_row n)) ds := rfl
def N__law_up : List Str := ["tree", "word", "side", "low"]
def B1__law_up (r__law_up : List D → Rs D) : SEnv → Rs Fl :=
  (sSq (sAs 3 (e2 opIx (eV 0) (eV 2)))
  (sIf (bAnd (bE (e2 opIsN (eV 3) (eC .none))) (bE (e2 opEq (e2 opIx (eV 3) (eC (.int 0))) (eV 1)))) (sSq (sIf (bE (e2 opEq (eV 2) (eC (.int 1)))) (sRt (eA mkT (aC (e2 opIx (eV 3) (eC (.int 0))) (aC (e2 opIx (eV 3) (eC (.int 1))) (aC (eA mkT (aC (e2 opIx (eV 0) (eC (.int 0))) (aC (e2 opIx (eV 3) (eC (.int 2))) (aC (e2 opIx (eV 0) (eC (.int 2))) aN)))) aN))))) sNx)
  (sRt (eA mkT (aC (e2 opIx (eV 3) (eC (.int 0))) (aC (eA mkT (aC (e2 opIx (eV 0) (eC (.int 0))) (aC (e2 opIx (eV 0) (eC (.int 1))) (aC (e2 opIx (eV 3) (eC (.int 1))) aN)))) (aC (e2 opIx (eV 3) (eC (.int 2))) aN)))))) sNx))
theorem x_B1__law_up (r__law_up : List D → Rs D) (env : SEnv) : B1__law_up r__law_up env =
  (sSq (sAs 3 (e2 opIx (eV 0) (eV 2)))
  (sIf (bAnd (bE (e2 opIsN (eV 3) (eC .none))) (bE (e2 opEq (e2 opIx (eV 3) (eC (.int 0))) (eV 1)))) (sSq (sIf (bE (e2 opEq (eV 2) (eC (.int 1)))) (sRt (eA mkT (aC (e2 opIx (eV 3) (eC (.int 0))) (aC (e2 opIx (eV 3) (eC (.int 1))) (aC (eA mkT (aC (e2 opIx (eV 0) (eC (.int 0))) (aC (e2 opIx (eV 3) (eC (.int 2))) (aC (e2 opIx (eV 0) (eC (.int 2))) aN)))) aN))))) sNx)
  (sRt (eA mkT (aC (e2 opIx (eV 3) (eC (.int 0))) (aC (eA mkT (aC (e2 opIx (eV 0) (eC (.int 0))) (aC (e2 opIx (eV 0) (eC (.int 1))) (aC (e2 opIx (eV 3) (eC (.int 1))) aN)))) (aC (e2 opIx (eV 3) (eC (.int 2))) aN)))))) sNx)) env := rfl
def F__law_up (r__law_up : List D → Rs D) : SEnv → Rs Fl :=
  (sSq (sFor (zTup (eA mkT (aC (eC (.int 1)) (aC (eC (.int 2)) aN)))) (gS1 2) (B1__law_up r__law_up))
  (sSq (sIf (bE (e2 opLt (eV 1) (e2 opIx (eV 0) (eC (.int 0))))) (sRt (eA mkT (aC (e2 opIx (eV 0) (eC (.int 0))) (aC (eA r__law_up (aC (e2 opIx (eV 0) (eC (.int 1))) (aC (eV 1) aN))) (aC (e2 opIx (eV 0) (eC (.int 2))) aN))))) sNx)
  (sRt (eA mkT (aC (e2 opIx (eV 0) (eC (.int 0))) (aC (e2 opIx (eV 0) (eC (.int 1))) (aC (eA r__law_up (aC (e2 opIx (eV 0) (eC (.int 2))) (aC (eV 1) aN))) aN)))))))
def R__law_up : Nat → List D → Rs D
  | 0 => fun _ => .bad
  | n + 1 => fnOf 4 2 .e (F__law_up (R__law_up n))
theorem S__law_up (n : Nat) (ds : List D) : R__law_up (n + 1) ds = fnOf 4 2 .e (F__law_up (R__law_up n)) ds := rfl
def N__law_refused_k13 : List Str := ["keys", "tree", "word", "way", "e"]
def F__law_refused_k13 (r_turned : List D → Rs D) : SEnv → Rs Fl :=
  (sSq (sAs 3 (eC (.str "")))
  (sSq (sTry (uC (eA r_turned (aC (eV 0) (aC (eV 1) (aC (eV 2) aN))))) 4 [(["AtRoot"], ["NoKey"], (sAs 3 (e2 opIx (eA mkL (aC (eC (.str "at root")) (aC (eC (.str "odd")) aN))) (eA opInt (aC (eOr (e1 (opIsX [("AtRoot", false), ("NoKey", true)]) (eV 4)) (eNot (e1 (opIsX [("AtRoot", true), ("NoKey", true)]) (eV 4)))) aN))))), (["NoKey"], [], (sAs 3 (e2 opIx (eA mkL (aC (eC (.str "no key")) (aC (eC (.str "odd")) aN))) (eA opInt (aC (eNot (e1 (opIsX [("AtRoot", true), ("NoKey", true)]) (eV 4))) aN)))))])
  (sRt (eV 3))))
def R__law_refused_k13 : Nat → List D → Rs D
  | 0 => fun _ => .bad
  | n + 1 => fnOf 5 3 .e (F__law_refused_k13 (R_turned n))
theorem S__law_refused_k13 (n : Nat) (ds : List D) : R__law_refused_k13 (n + 1) ds = fnOf 5 3 .e (F__law_refused_k13 (R_turned n)) ds := rfl
def N_law_k13 : List Str := ["script", "many", "keys", "tree", "word", "other", "handed", "found"]
def F_law_k13 (r__law_many : List D → Rs D) (r__law_keys : List D → Rs D) (r__law_tree : List D → Rs D) (r_turned : List D → Rs D) (r__law_cell_at : List D → Rs D) (r__law_refused_k13 : List D → Rs D) (r__law_up : List D → Rs D) (r__law_row : List D → Rs D) : SEnv → Rs Fl :=
  (sSq (sAs 1 (eA r__law_many (aC (eA r__law_cell_at (aC (eV 0) (aC (eC (.int 0)) aN))) (aC (eC (.int 12)) aN))))
  (sSq (sAs 2 (eA r__law_keys (aC (eV 0) (aC (eV 1) aN))))
  (sSq (sIf (bE (e2 opEq (eV 1) (eC (.int 0)))) (sRt (e2 opEq (eA r__law_refused_k13 (aC (eA mkL aN) (aC (eC .none) (aC (eC (.str "b")) aN)))) (eC (.str "no key")))) sNx)
  (sSq (sAs 3 (eA r__law_tree (aC (eV 2) (aC (eA r__law_cell_at (aC (eV 0) (aC (eC (.int 42)) aN))) (aC (eC (.int 0)) (aC (eV 1) aN))))))
  (sSq (sAs 4 (e2 opIx (eV 2) (e2 opMod (eA r__law_cell_at (aC (eV 0) (aC (eC (.int 43)) aN))) (eV 1))))
  (sSq (sAs 5 (eSl opSlS (e2 opAdd (e2 opIx (eV 2) (e2 opMod (eA r__law_cell_at (aC (eV 0) (aC (eC (.int 44)) aN))) (eV 1))) (eC (.str "w"))) (oS (e1 opNeg (eC (.int 8)))) oN))
  (sSq (sAs 6 (eA opList (aC (eV 2) aN)))
  (sSq (sIf (bAnd (bE (e2 opNi (eV 5) (eV 2))) (bE (e2 opNe (eA r__law_refused_k13 (aC (eV 6) (aC (eV 3) (aC (eV 5) aN)))) (eC (.str "no key"))))) (sRt (eC (.bool false))) sNx)
  (sSq (sIf (bE (e2 opNe (eA r__law_refused_k13 (aC (eV 6) (aC (eV 3) (aC (e2 opIx (eV 3) (eC (.int 0))) aN)))) (eC (.str "at root")))) (sRt (eC (.bool false))) sNx)
  (sSq (sIf (bE (e2 opEq (eV 4) (e2 opIx (eV 3) (eC (.int 0))))) (sRt (e2 opEq (eV 6) (eV 2))) sNx)
  (sSq (sAs 7 (eA r_turned (aC (eV 6) (aC (eV 3) (aC (eV 4) aN)))))
  (sRt (eAnd (e2 opEq (eV 7) (eA r__law_up (aC (eV 3) (aC (eV 4) aN)))) (eAnd (e2 opEq (eA r__law_row (aC (eV 7) aN)) (eV 2)) (e2 opEq (eV 6) (eV 2))))))))))))))))
def R_law_k13 : Nat → List D → Rs D
  | 0 => fun _ => .bad
  | n + 1 => fnOf 8 1 .e (F_law_k13 (R__law_many n) (R__law_keys n) (R__law_tree n) (R_turned n) (R__law_cell_at n) (R__law_refused_k13 n) (R__law_up n) (R__law_row n))
theorem S_law_k13 (n : Nat) (ds : List D) : R_law_k13 (n + 1) ds = fnOf 8 1 .e (F_law_k13 (R__law_many n) (R__law_keys n) (R__law_tree n) (R_turned n) (R__law_cell_at n) (R__law_refused_k13 n) (R__law_up n) (R__law_row n)) ds := rfl
def N_ways : List Str := ["one", "other", "found"]
def B1_ways (r_up : List D → Rs D) (r_ways : List D → Rs D) : SEnv → Rs Fl :=
  (sSq (sAp 2 (e2 opIx (eV 1) (eC (.int 0))))
  (sAs 0 (eA r_up (aC (eV 0) (aC (e2 opIx (eV 1) (eC (.int 0))) aN)))))
theorem x_B1_ways (r_up : List D → Rs D) (r_ways : List D → Rs D) (env : SEnv) : B1_ways r_up r_ways env =
  (sSq (sAp 2 (e2 opIx (eV 1) (eC (.int 0))))
  (sAs 0 (eA r_up (aC (eV 0) (aC (e2 opIx (eV 1) (eC (.int 0))) aN))))) env := rfl
def F_ways (r_up : List D → Rs D) (r_ways : List D → Rs D) : SEnv → Rs Fl :=
  (sSq (sIf (bE (e2 opIs (eV 0) (eC .none))) (sRt (eA mkL aN)) sNx)
  (sSq (sNw 2 (eA mkL aN))
  (sSq (whileN (bE (e2 opNe (e2 opIx (eV 0) (eC (.int 0))) (e2 opIx (eV 1) (eC (.int 0))))) (B1_ways r_up r_ways) 1000)
  (sRt (e2 opCat (e2 opCat (eV 2) (eA r_ways (aC (e2 opIx (eV 0) (eC (.int 1))) (aC (e2 opIx (eV 1) (eC (.int 1))) aN)))) (eA r_ways (aC (e2 opIx (eV 0) (eC (.int 2))) (aC (e2 opIx (eV 1) (eC (.int 2))) aN))))))))
def R_ways : Nat → List D → Rs D
  | 0 => fun _ => .bad
  | n + 1 => fnOf 3 2 .o (F_ways (R_up n) (R_ways n))
theorem S_ways (n : Nat) (ds : List D) : R_ways (n + 1) ds = fnOf 3 2 .o (F_ways (R_up n) (R_ways n)) ds := rfl
def N_turns : List Str := ["keys", "one", "other"]
def F_turns (r_ask_keys : List D → Rs D) (r_ask_tree : List D → Rs D) (r_ways : List D → Rs D) : SEnv → Rs Fl :=
  (sSq (sEx (eA r_ask_keys (aC (eV 0) aN)))
  (sSq (sEx (eA r_ask_tree (aC (eV 0) (aC (eV 1) aN))))
  (sSq (sEx (eA r_ask_tree (aC (eV 0) (aC (eV 2) aN))))
  (sRt (eA r_ways (aC (eV 1) (aC (eV 2) aN)))))))
def R_turns : Nat → List D → Rs D
  | 0 => fun _ => .bad
  | n + 1 => fnOf 3 3 .o (F_turns (R_ask_keys n) (R_ask_tree n) (R_ways n))
theorem S_turns (n : Nat) (ds : List D) : R_turns (n + 1) ds = fnOf 3 3 .o (F_turns (R_ask_keys n) (R_ask_tree n) (R_ways n)) ds := rfl
def N_law_k14 : List Str := ["script", "many", "keys", "one", "other", "handed", "turn", "found", "here", "word"]
def B1_law_k14 (r__law_many : List D → Rs D) (r__law_keys : List D → Rs D) (r__law_tree : List D → Rs D) (r__law_cell_at : List D → Rs D) (r_turns : List D → Rs D) (r__law_up : List D → Rs D) : SEnv → Rs Fl :=
  (sSq (sNw 7 (eA r_turns (aC (eV 5) (aC (eV 3) (aC (eV 4) aN)))))
  (sSq (sIf (bOr (bNot (bE (e1 (opIsi "list") (eV 7)))) (bOr (bE (e2 opGt (eA opLen (aC (eV 7) aN)) (e2 opDiv (e2 opMul (eV 1) (e2 opSub (eV 1) (eC (.int 1)))) (eC (.int 2))))) (bE (e2 opNe (eV 5) (eV 2))))) (sRt (eC (.bool false))) sNx)
  (sSq (sAs 8 (eV 3))
  (sSq (sFo 7 9 8 (bOr (bNot (bE (e1 (opIsi "str") (eV 9)))) (bOr (bE (e2 opNi (eV 9) (eV 2))) (bE (e2 opEq (eV 9) (e2 opIx (eV 8) (eC (.int 0))))))) (eC (.bool false)) (eA r__law_up (aC (eV 8) (aC (eV 9) aN))))
  (sSq (sIf (bE (e2 opNe (eV 8) (eV 4))) (sRt (eC (.bool false))) sNx)
  (sAp 7 (eC (.str "x"))))))))
theorem x_B1_law_k14 (r__law_many : List D → Rs D) (r__law_keys : List D → Rs D) (r__law_tree : List D → Rs D) (r__law_cell_at : List D → Rs D) (r_turns : List D → Rs D) (r__law_up : List D → Rs D) (env : SEnv) : B1_law_k14 r__law_many r__law_keys r__law_tree r__law_cell_at r_turns r__law_up env =
  (sSq (sNw 7 (eA r_turns (aC (eV 5) (aC (eV 3) (aC (eV 4) aN)))))
  (sSq (sIf (bOr (bNot (bE (e1 (opIsi "list") (eV 7)))) (bOr (bE (e2 opGt (eA opLen (aC (eV 7) aN)) (e2 opDiv (e2 opMul (eV 1) (e2 opSub (eV 1) (eC (.int 1)))) (eC (.int 2))))) (bE (e2 opNe (eV 5) (eV 2))))) (sRt (eC (.bool false))) sNx)
  (sSq (sAs 8 (eV 3))
  (sSq (sFo 7 9 8 (bOr (bNot (bE (e1 (opIsi "str") (eV 9)))) (bOr (bE (e2 opNi (eV 9) (eV 2))) (bE (e2 opEq (eV 9) (e2 opIx (eV 8) (eC (.int 0))))))) (eC (.bool false)) (eA r__law_up (aC (eV 8) (aC (eV 9) aN))))
  (sSq (sIf (bE (e2 opNe (eV 8) (eV 4))) (sRt (eC (.bool false))) sNx)
  (sAp 7 (eC (.str "x")))))))) env := rfl
def F_law_k14 (r__law_many : List D → Rs D) (r__law_keys : List D → Rs D) (r__law_tree : List D → Rs D) (r__law_cell_at : List D → Rs D) (r_turns : List D → Rs D) (r__law_up : List D → Rs D) : SEnv → Rs Fl :=
  (sSq (sAs 1 (eA r__law_many (aC (eA r__law_cell_at (aC (eV 0) (aC (eC (.int 0)) aN))) (aC (eC (.int 12)) aN))))
  (sSq (sAs 2 (eA r__law_keys (aC (eV 0) (aC (eV 1) aN))))
  (sSq (sAs 3 (eA r__law_tree (aC (eV 2) (aC (eA r__law_cell_at (aC (eV 0) (aC (eC (.int 42)) aN))) (aC (eC (.int 0)) (aC (eV 1) aN))))))
  (sSq (sAs 4 (eA r__law_tree (aC (eV 2) (aC (eA r__law_cell_at (aC (eV 0) (aC (eC (.int 43)) aN))) (aC (eC (.int 0)) (aC (eV 1) aN))))))
  (sSq (sIf (bE (e2 opEq (e2 opMod (eA r__law_cell_at (aC (eV 0) (aC (eC (.int 44)) aN))) (eC (.int 6))) (eC (.int 1)))) (sAs 4 (eV 3)) sNx)
  (sSq (sAs 5 (eA opList (aC (eV 2) aN)))
  (sSq (sFor (zR1 (eC (.int 2))) (gS1 6) (B1_law_k14 r__law_many r__law_keys r__law_tree r__law_cell_at r_turns r__law_up))
  (sRt (eC (.bool true))))))))))
def R_law_k14 : Nat → List D → Rs D
  | 0 => fun _ => .bad
  | n + 1 => fnOf 10 1 .e (F_law_k14 (R__law_many n) (R__law_keys n) (R__law_tree n) (R__law_cell_at n) (R_turns n) (R__law_up n))
theorem S_law_k14 (n : Nat) (ds : List D) : R_law_k14 (n + 1) ds = fnOf 10 1 .e (F_law_k14 (R__law_many n) (R__law_keys n) (R__law_tree n) (R__law_cell_at n) (R_turns n) (R__law_up n)) ds := rfl
def N_written : List Str := ["tree"]
def F_written (r_written : List D → Rs D) : SEnv → Rs Fl :=
  (sSq (sIf (bE (e2 opIs (eV 0) (eC .none))) (sRt (eC (.str "-"))) sNx)
  (sRt (e2 opAdd (e2 opAdd (e2 opAdd (e2 opAdd (e2 opAdd (e2 opAdd (eC (.str "(")) (eA r_written (aC (e2 opIx (eV 0) (eC (.int 1))) aN))) (eC (.str " "))) (e2 opIx (eV 0) (eC (.int 0)))) (eC (.str " "))) (eA r_written (aC (e2 opIx (eV 0) (eC (.int 2))) aN))) (eC (.str ")")))))
def R_written : Nat → List D → Rs D
  | 0 => fun _ => .bad
  | n + 1 => fnOf 1 1 .e (F_written (R_written n))
theorem S_written (n : Nat) (ds : List D) : R_written (n + 1) ds = fnOf 1 1 .e (F_written (R_written n)) ds := rfl
def N_shown : List Str := ["keys", "tree"]
def F_shown (r_ask_keys : List D → Rs D) (r_ask_tree : List D → Rs D) (r_written : List D → Rs D) : SEnv → Rs Fl :=
  (sSq (sEx (eA r_ask_keys (aC (eV 0) aN)))
  (sSq (sEx (eA r_ask_tree (aC (eV 0) (aC (eV 1) aN))))
  (sRt (eA r_written (aC (eV 1) aN)))))
def R_shown : Nat → List D → Rs D
  | 0 => fun _ => .bad
  | n + 1 => fnOf 2 2 .e (F_shown (R_ask_keys n) (R_ask_tree n) (R_written n))
theorem S_shown (n : Nat) (ds : List D) : R_shown (n + 1) ds = fnOf 2 2 .e (F_shown (R_ask_keys n) (R_ask_tree n) (R_written n)) ds := rfl
def N_behind : List Str := ["text", "at", "sign"]
def F_behind : SEnv → Rs Fl :=
  (sSq (sIf (bE (e2 opNe (eSl opSlS (eV 0) (oS (eV 1)) (oS (e2 opAdd (eV 1) (eC (.int 1))))) (eV 2))) (sRaise "BadText") sNx)
  (sRt (e2 opAdd (eV 1) (eC (.int 1)))))
def R_behind : Nat → List D → Rs D
  | 0 => fun _ => .bad
  | n + 1 => fnOf 3 3 .e (F_behind)
theorem S_behind (n : Nat) (ds : List D) : R_behind (n + 1) ds = fnOf 3 3 .e (F_behind) ds := rfl
def N_word_end : List Str := ["text", "at"]
def B1_word_end : SEnv → Rs Fl :=
  (sAs 1 (e2 opAdd (eV 1) (eC (.int 1))))
theorem x_B1_word_end (env : SEnv) : B1_word_end env =
  (sAs 1 (e2 opAdd (eV 1) (eC (.int 1)))) env := rfl
def F_word_end : SEnv → Rs Fl :=
  (sSq (whileN (bAnd (bE (e2 opLt (eV 1) (eA opLen (aC (eV 0) aN)))) (bE (e2 opIn (e2 opIx (eV 0) (eV 1)) (eC (.str "abcdefghijklmnopqrstuvwxyz"))))) (B1_word_end) 1000)
  (sRt (eV 1)))
def R_word_end : Nat → List D → Rs D
  | 0 => fun _ => .bad
  | n + 1 => fnOf 2 2 .e (F_word_end)
theorem S_word_end (n : Nat) (ds : List D) : R_word_end (n + 1) ds = fnOf 2 2 .e (F_word_end) ds := rfl
def N_tree_at : List Str := ["text", "at", "left", "start", "end", "right"]
def F_tree_at (r_tree_at : List D → Rs D) (r_behind : List D → Rs D) (r_word_end : List D → Rs D) : SEnv → Rs Fl :=
  (sSq (sIf (bE (e2 opEq (eSl opSlS (eV 0) (oS (eV 1)) (oS (e2 opAdd (eV 1) (eC (.int 1))))) (eC (.str "-")))) (sRt (eA mkT (aC (eC .none) (aC (e2 opAdd (eV 1) (eC (.int 1))) aN)))) sNx)
  (sSq (sAs 2 (eA r_tree_at (aC (eV 0) (aC (eA r_behind (aC (eV 0) (aC (eV 1) (aC (eC (.str "(")) aN)))) aN))))
  (sSq (sAs 3 (eA r_behind (aC (eV 0) (aC (e2 opIx (eV 2) (eC (.int 1))) (aC (eC (.str " ")) aN)))))
  (sSq (sAs 4 (eA r_word_end (aC (eV 0) (aC (eV 3) aN))))
  (sSq (sAs 5 (eA r_tree_at (aC (eV 0) (aC (eA r_behind (aC (eV 0) (aC (eV 4) (aC (eC (.str " ")) aN)))) aN))))
  (sRt (eA mkT (aC (eA mkT (aC (eSl opSlS (eV 0) (oS (eV 3)) (oS (eV 4))) (aC (e2 opIx (eV 2) (eC (.int 0))) (aC (e2 opIx (eV 5) (eC (.int 0))) aN)))) (aC (eA r_behind (aC (eV 0) (aC (e2 opIx (eV 5) (eC (.int 1))) (aC (eC (.str ")")) aN)))) aN)))))))))
def R_tree_at : Nat → List D → Rs D
  | 0 => fun _ => .bad
  | n + 1 => fnOf 6 2 .e (F_tree_at (R_tree_at n) (R_behind n) (R_word_end n))
theorem S_tree_at (n : Nat) (ds : List D) : R_tree_at (n + 1) ds = fnOf 6 2 .e (F_tree_at (R_tree_at n) (R_behind n) (R_word_end n)) ds := rfl
def N_read : List Str := ["text", "found"]
def F_read (r_tree_at : List D → Rs D) (r_are_keys : List D → Rs D) (r_row_of : List D → Rs D) : SEnv → Rs Fl :=
  (sSq (sAs 1 (eA r_tree_at (aC (eV 0) (aC (eC (.int 0)) aN))))
  (sSq (sIf (bOr (bE (e2 opNe (e2 opIx (eV 1) (eC (.int 1))) (eA opLen (aC (eV 0) aN)))) (bNot (bE (eA r_are_keys (aC (eA r_row_of (aC (e2 opIx (eV 1) (eC (.int 0))) aN)) aN))))) (sRaise "BadText") sNx)
  (sRt (e2 opIx (eV 1) (eC (.int 0))))))
def R_read : Nat → List D → Rs D
  | 0 => fun _ => .bad
  | n + 1 => fnOf 2 1 .e (F_read (R_tree_at n) (R_are_keys n) (R_row_of n))
theorem S_read (n : Nat) (ds : List D) : R_read (n + 1) ds = fnOf 2 1 .e (F_read (R_tree_at n) (R_are_keys n) (R_row_of n)) ds := rfl
def N__law_text : List Str := ["tree"]
def F__law_text (r__law_text : List D → Rs D) : SEnv → Rs Fl :=
  (sSq (sIf (bE (e2 opIs (eV 0) (eC .none))) (sRt (eC (.str "-"))) sNx)
  (sRt (e2 opAdd (e2 opAdd (e2 opAdd (e2 opAdd (e2 opAdd (e2 opAdd (eC (.str "(")) (eA r__law_text (aC (e2 opIx (eV 0) (eC (.int 1))) aN))) (eC (.str " "))) (e2 opIx (eV 0) (eC (.int 0)))) (eC (.str " "))) (eA r__law_text (aC (e2 opIx (eV 0) (eC (.int 2))) aN))) (eC (.str ")")))))
def R__law_text : Nat → List D → Rs D
  | 0 => fun _ => .bad
  | n + 1 => fnOf 1 1 .e (F__law_text (R__law_text n))
theorem S__law_text (n : Nat) (ds : List D) : R__law_text (n + 1) ds = fnOf 1 1 .e (F__law_text (R__law_text n)) ds := rfl
def N_law_k15 : List Str := ["script", "many", "keys", "tree", "due", "handed", "text", "found"]
def F_law_k15 (r__law_many : List D → Rs D) (r__law_keys : List D → Rs D) (r__law_tree : List D → Rs D) (r__law_text : List D → Rs D) (r_shown : List D → Rs D) (r_read : List D → Rs D) (r__law_cell_at : List D → Rs D) (r__law_is_tree : List D → Rs D) : SEnv → Rs Fl :=
  (sSq (sAs 1 (eA r__law_many (aC (eA r__law_cell_at (aC (eV 0) (aC (eC (.int 0)) aN))) (aC (eC (.int 12)) aN))))
  (sSq (sAs 2 (eA r__law_keys (aC (eV 0) (aC (eV 1) aN))))
  (sSq (sAs 3 (eA r__law_tree (aC (eV 2) (aC (eA r__law_cell_at (aC (eV 0) (aC (eC (.int 42)) aN))) (aC (eC (.int 0)) (aC (eV 1) aN))))))
  (sSq (sAs 4 (eA r__law_text (aC (eV 3) aN)))
  (sSq (sAs 5 (eA opList (aC (eV 2) aN)))
  (sSq (sAs 6 (eA r_shown (aC (eV 5) (aC (eV 3) aN))))
  (sSq (sIf (bOr (bNot (bE (e1 (opIsi "str") (eV 6)))) (bOr (bE (e2 opNe (eV 6) (eV 4))) (bE (e2 opNe (eV 5) (eV 2))))) (sRt (eC (.bool false))) sNx)
  (sSq (sAs 7 (eA r_read (aC (eV 4) aN)))
  (sRt (eAnd (eA r__law_is_tree (aC (eV 7) (aC (eV 2) aN))) (e2 opEq (eV 7) (eV 3))))))))))))
def R_law_k15 : Nat → List D → Rs D
  | 0 => fun _ => .bad
  | n + 1 => fnOf 8 1 .e (F_law_k15 (R__law_many n) (R__law_keys n) (R__law_tree n) (R__law_text n) (R_shown n) (R_read n) (R__law_cell_at n) (R__law_is_tree n))
theorem S_law_k15 (n : Nat) (ds : List D) : R_law_k15 (n + 1) ds = fnOf 8 1 .e (F_law_k15 (R__law_many n) (R__law_keys n) (R__law_tree n) (R__law_text n) (R_shown n) (R_read n) (R__law_cell_at n) (R__law_is_tree n)) ds := rfl
def N__law_is_right : List Str := ["text", "words", "k", "word"]
def F__law_is_right (r__law_end : List D → Rs D) : SEnv → Rs Fl :=
  (sSq (sNw 1 (eA mkL aN))
  (sSq (sEnd 0 1 r__law_end)
  (sSq (sIf (bNot (bE (eA opAll (aC (eLc (zLst (eV 1)) [3] 3 yesB (eCh opLe opLe (eC (.int 1)) (eA opLen (aC (eV 3) aN)) (eC (.int 8)))) aN)))) (sRt (eC (.bool false))) sNx)
  (sRt (eA opAll (aC (eLc (zR2 (eC (.int 1)) (eA opLen (aC (eV 1) aN))) [2] 2 yesB (e2 opLt (e2 opIx (eV 1) (e2 opSub (eV 2) (eC (.int 1)))) (e2 opIx (eV 1) (eV 2)))) aN))))))
def R__law_is_right : Nat → List D → Rs D
  | 0 => fun _ => .bad
  | n + 1 => fnOf 4 1 .e (F__law_is_right (R__law_end n))
theorem S__law_is_right (n : Nat) (ds : List D) : R__law_is_right (n + 1) ds = fnOf 4 1 .e (F__law_is_right (R__law_end n)) ds := rfl
def N__law_spoiled : List Str := ["script", "text", "keys", "sign", "at", "way", "place", "words", "line", "letter", "k"]
def B1__law_spoiled (r__law_cell_at : List D → Rs D) : SEnv → Rs Fl :=
  (sAs 8 (e2 opAdd (e2 opAdd (e2 opAdd (e2 opAdd (eC (.str "(")) (eV 8)) (eC (.str " "))) (eV 9)) (eC (.str " -)"))))
theorem x_B1__law_spoiled (r__law_cell_at : List D → Rs D) (env : SEnv) : B1__law_spoiled r__law_cell_at env =
  (sAs 8 (e2 opAdd (e2 opAdd (e2 opAdd (e2 opAdd (eC (.str "(")) (eV 8)) (eC (.str " "))) (eV 9)) (eC (.str " -)")))) env := rfl
def F__law_spoiled (r__law_cell_at : List D → Rs D) : SEnv → Rs Fl :=
  (sSq (sAs 3 (e2 opIx (eC (.str "abzA()- \t\n0_.,w")) (e2 opMod (eA r__law_cell_at (aC (eV 0) (aC (eC (.int 43)) aN))) (eC (.int 15)))))
  (sSq (sAs 4 (e2 opMod (eA r__law_cell_at (aC (eV 0) (aC (eC (.int 44)) aN))) (e2 opAdd (eA opLen (aC (eV 1) aN)) (eC (.int 1)))))
  (sSq (sAs 5 (e2 opMod (eA r__law_cell_at (aC (eV 0) (aC (eC (.int 45)) aN))) (eC (.int 7))))
  (sSq (sIf (bE (e2 opLt (eV 5) (eC (.int 3)))) (sRt (e2 opAdd (e2 opAdd (eSl opSlS (eV 1) oN (oS (eV 4))) (e2 opIx (eA mkL (aC (eV 3) (aC (eV 3) (aC (eC (.str "")) aN)))) (eV 5))) (eSl opSlS (eV 1) (oS (e2 opAdd (eV 4) (eA opInt (aC (e2 opGt (eV 5) (eC (.int 0))) aN)))) oN))) sNx)
  (sSq (sIf (bAnd (bE (e2 opEq (eV 5) (eC (.int 3)))) (bE (e2 opGt (eA opLen (aC (eV 2) aN)) (eC (.int 1))))) (sSq (sAs 6 (e2 opAdd (eC (.int 1)) (e2 opMod (eA r__law_cell_at (aC (eV 0) (aC (eC (.int 44)) aN))) (e2 opSub (eA opLen (aC (eV 2) aN)) (eC (.int 1))))))
  (sRt (eRepA " " " " (eV 1) (e2 opIx (eV 2) (eV 6)) (e2 opIx (eV 2) (e2 opSub (eV 6) (eC (.int 1))))))) sNx)
  (sSq (sIf (bAnd (bE (e2 opEq (eV 5) (eC (.int 4)))) (bE (e2 opGt (eA opLen (aC (eV 2) aN)) (eC (.int 0))))) (sRt (eRepA " " " " (eV 1) (e2 opIx (eV 2) (e1 opNeg (eC (.int 1)))) (eSl opSlS (eC (.str "zzzzzzzzz")) oN (oS (e2 opAdd (eC (.int 8)) (e2 opMod (eV 4) (eC (.int 2)))))))) sNx)
  (sSq (sIf (bE (e2 opEq (eV 5) (eC (.int 5)))) (sSq (sAs 7 (eLc (zR1 (e2 opAdd (eC (.int 12)) (e2 opMod (eV 4) (eC (.int 3))))) [10] 10 yesB (e2 opIx (eC (.str "abcdefghijklmno")) (eV 10))))
  (sRt (e2 opAdd (e2 opAdd (e2 opRep (eC (.str "(- ")) (eA opLen (aC (eV 7) aN))) (eJoin (eC (.str " -)(- ")) (aC (eV 7) aN))) (eC (.str " -)"))))) sNx)
  (sSq (sAs 8 (eC (.str "-")))
  (sSq (sFor (zStr (eSl opSlS (eC (.str "abcdefghijklmno")) oN (oS (e2 opAdd (eC (.int 11)) (e2 opMod (eV 4) (eC (.int 4))))))) (gS1 9) (B1__law_spoiled r__law_cell_at))
  (sRt (eV 8)))))))))))
def R__law_spoiled : Nat → List D → Rs D
  | 0 => fun _ => .bad
  | n + 1 => fnOf 11 3 .e (F__law_spoiled (R__law_cell_at n))
theorem S__law_spoiled (n : Nat) (ds : List D) : R__law_spoiled (n + 1) ds = fnOf 11 3 .e (F__law_spoiled (R__law_cell_at n)) ds := rfl
def N__law_refused_k16 : List Str := ["text", "bad", "e"]
def F__law_refused_k16 (r_read : List D → Rs D) : SEnv → Rs Fl :=
  (sSq (sAs 1 (eC (.bool false)))
  (sSq (sTry (uC (eA r_read (aC (eV 0) aN))) 2 [(["BadText"], [], (sSq (sAs 1 (eAnd (e1 (opIsX [("BadText", true)]) (eV 2)) (e1 (opIsX [("BadText", true)]) (eV 2))))
  (sAs 1 (eAnd (eV 1) (eAnd (eNot (e1 (opIsX [("BadText", false)]) (eV 2))) (eNot (e1 (opIsX [("BadText", false)]) (eV 2))))))))])
  (sRt (eV 1))))
def R__law_refused_k16 : Nat → List D → Rs D
  | 0 => fun _ => .bad
  | n + 1 => fnOf 3 1 .e (F__law_refused_k16 (R_read n))
theorem S__law_refused_k16 (n : Nat) (ds : List D) : R__law_refused_k16 (n + 1) ds = fnOf 3 1 .e (F__law_refused_k16 (R_read n)) ds := rfl
def N_law_k16 : List Str := ["script", "many", "keys", "text", "bad"]
def F_law_k16 (r__law_many : List D → Rs D) (r__law_keys : List D → Rs D) (r__law_text : List D → Rs D) (r__law_spoiled : List D → Rs D) (r__law_is_right : List D → Rs D) (r__law_cell_at : List D → Rs D) (r__law_tree : List D → Rs D) (r__law_refused_k16 : List D → Rs D) (r_read : List D → Rs D) : SEnv → Rs Fl :=
  (sSq (sAs 1 (eA r__law_many (aC (eA r__law_cell_at (aC (eV 0) (aC (eC (.int 0)) aN))) (aC (eC (.int 12)) aN))))
  (sSq (sAs 2 (eA r__law_keys (aC (eV 0) (aC (eV 1) aN))))
  (sSq (sAs 3 (eA r__law_text (aC (eA r__law_tree (aC (eV 2) (aC (eA r__law_cell_at (aC (eV 0) (aC (eC (.int 42)) aN))) (aC (eC (.int 0)) (aC (eV 1) aN))))) aN)))
  (sSq (sAs 4 (eA r__law_spoiled (aC (eV 0) (aC (eV 3) (aC (eV 2) aN)))))
  (sSq (sIf (bE (eA r__law_is_right (aC (eV 4) aN))) (sRt (e2 opEq (eA r__law_text (aC (eA r_read (aC (eV 4) aN)) aN)) (eV 4))) sNx)
  (sRt (eAnd (eA r__law_refused_k16 (aC (eV 4) aN)) (eA r__law_refused_k16 (aC (eV 4) aN)))))))))
def R_law_k16 : Nat → List D → Rs D
  | 0 => fun _ => .bad
  | n + 1 => fnOf 5 1 .e (F_law_k16 (R__law_many n) (R__law_keys n) (R__law_text n) (R__law_spoiled n) (R__law_is_right n) (R__law_cell_at n) (R__law_tree n) (R__law_refused_k16 n) (R_read n))
theorem S_law_k16 (n : Nat) (ds : List D) : R_law_k16 (n + 1) ds = fnOf 5 1 .e (F_law_k16 (R__law_many n) (R__law_keys n) (R__law_text n) (R__law_spoiled n) (R__law_is_right n) (R__law_cell_at n) (R__law_tree n) (R__law_refused_k16 n) (R_read n)) ds := rfl
def N__law_bad_keys : List Str := ["keys", "cell", "place", "way", "odd", "k"]
def F__law_bad_keys : SEnv → Rs Fl :=
  (sSq (sAs 2 (e2 opMod (e2 opDiv (eV 1) (eC (.int 8))) (eA opLen (aC (eV 0) aN))))
  (sSq (sAs 3 (e2 opMod (eV 1) (eC (.int 8))))
  (sSq (sIf (bAnd (bE (e2 opEq (eV 3) (eC (.int 0)))) (bE (e2 opGt (eA opLen (aC (eV 0) aN)) (eC (.int 1))))) (sRt (e1 opRev (eV 0))) sNx)
  (sSq (sIf (bE (e2 opEq (eV 3) (eC (.int 1)))) (sRt (e2 opCat (eSl opSlL (eV 0) oN (oS (e2 opAdd (eV 2) (eC (.int 1))))) (eSl opSlL (eV 0) (oS (eV 2)) oN))) sNx)
  (sSq (sIf (bAnd (bE (e2 opEq (eV 3) (eC (.int 3)))) (bE (e2 opGt (eV 2) (eC (.int 0))))) (sRt (e2 opCat (e2 opCat (eSl opSlL (eV 0) oN (oS (e2 opSub (eV 2) (eC (.int 1))))) (eA mkL (aC (e2 opIx (eV 0) (eV 2)) (aC (e2 opIx (eV 0) (e2 opSub (eV 2) (eC (.int 1)))) aN)))) (eSl opSlL (eV 0) (oS (e2 opAdd (eV 2) (eC (.int 1)))) oN))) sNx)
  (sSq (sIf (bE (e2 opEq (eV 3) (eC (.int 2)))) (sRt (e2 opCat (eV 0) (eLc (zR1 (e2 opAdd (e2 opSub (eC (.int 13)) (eA opLen (aC (eV 0) aN))) (e2 opMod (e2 opDiv (eV 1) (eC (.int 8))) (eC (.int 8))))) [5] 5 yesB (e2 opAdd (eC (.str "y")) (e2 opIx (eC (.str "abcdefghijklmnopqrst")) (eV 5)))))) sNx)
  (sSq (sAs 4 (e2 opIx (eA mkL (aC (eC (.str "")) (aC (eC (.str "zzzzzzzzz")) (aC (eC (.str "Zb")) (aC (eC (.str "z b")) (aC (eC (.str "z1")) (aC (eC (.str "z-")) (aC (eC (.str "z\t")) aN)))))))) (e2 opMod (e2 opDiv (eV 1) (eC (.int 8))) (eC (.int 7)))))
  (sRt (e2 opCat (e2 opCat (eSl opSlL (eV 0) oN (oS (eV 2))) (eA mkL (aC (eV 4) aN))) (eSl opSlL (eV 0) (oS (e2 opAdd (eV 2) (eC (.int 1)))) oN))))))))))
def R__law_bad_keys : Nat → List D → Rs D
  | 0 => fun _ => .bad
  | n + 1 => fnOf 6 2 .e (F__law_bad_keys)
theorem S__law_bad_keys (n : Nat) (ds : List D) : R__law_bad_keys (n + 1) ds = fnOf 6 2 .e (F__law_bad_keys) ds := rfl
def N__law_bad_weights : List Str := ["rows", "cell", "place", "other", "far"]
def F__law_bad_weights : SEnv → Rs Fl :=
  (sSq (sAs 2 (e2 opMod (e2 opDiv (eV 1) (eC (.int 8))) (eA opLen (aC (e2 opIx (eV 0) (e2 opMod (eV 1) (eC (.int 2)))) aN))))
  (sSq (sNn 3 (eA mkL (aC (eA opList (aC (e2 opIx (eV 0) (eC (.int 0))) aN)) (aC (eA opList (aC (e2 opIx (eV 0) (eC (.int 1))) aN)) aN))))
  (sSq (sIf (bE (e2 opEq (e2 opMod (e2 opDiv (eV 1) (eC (.int 8))) (eC (.int 3))) (eC (.int 1)))) (sSq (sIf (bE (e2 opEq (e2 opMod (eV 1) (eC (.int 2))) (eC (.int 0)))) (sRt (eA mkL (aC (e2 opCat (e2 opIx (eV 3) (eC (.int 0))) (eA mkL (aC (eC (.int 1)) aN))) (aC (e2 opCat (e2 opIx (eV 3) (eC (.int 1))) (eA mkL (aC (eC (.int 1)) aN))) aN)))) sNx)
  (sRt (eA mkL (aC (eSl opSlL (e2 opIx (eV 3) (eC (.int 0))) (oS (eC (.int 1))) oN) (aC (eSl opSlL (e2 opIx (eV 3) (eC (.int 1))) (oS (eC (.int 1))) oN) aN))))) sNx)
  (sSq (sIf (bE (e2 opEq (e2 opMod (e2 opDiv (eV 1) (eC (.int 2))) (eC (.int 4))) (eC (.int 0)))) (sNap 3 (e2 opMod (eV 1) (eC (.int 2))) (eC (.int 1))) (sIf (bE (e2 opEq (e2 opMod (e2 opDiv (eV 1) (eC (.int 2))) (eC (.int 4))) (eC (.int 1)))) (sNpop 3 (e2 opMod (eV 1) (eC (.int 2)))) (sSq (sAs 4 (e2 opMod (e2 opDiv (eV 1) (eC (.int 100))) (e2 opPow (eC (.int 10)) (eC (.int 15)))))
  (sNit 3 (e2 opMod (eV 1) (eC (.int 2))) (eV 2) (e2 opIx (eA mkL (aC (e2 opSub (e1 opNeg (eC (.int 1))) (eV 4)) (aC (e2 opAdd (eC (.int 1000001)) (eV 4)) aN))) (e2 opMod (e2 opDiv (eV 1) (eC (.int 2))) (eC (.int 2))))))))
  (sRt (eV 3))))))
def R__law_bad_weights : Nat → List D → Rs D
  | 0 => fun _ => .bad
  | n + 1 => fnOf 5 2 .e (F__law_bad_weights)
theorem S__law_bad_weights (n : Nat) (ds : List D) : R__law_bad_weights (n + 1) ds = fnOf 5 2 .e (F__law_bad_weights) ds := rfl
def N__law_bad_tree : List Str := ["tree", "cell", "keys", "place", "other"]
def F__law_bad_tree (r__law_mirrored : List D → Rs D) (r__law_tree : List D → Rs D) : SEnv → Rs Fl :=
  (sSq (sIf (bAnd (bE (e2 opEq (e2 opMod (e2 opDiv (eV 1) (eC (.int 3))) (eC (.int 3))) (eC (.int 1)))) (bE (e2 opGt (eA opLen (aC (eV 2) aN)) (eC (.int 1))))) (sRt (eA r__law_mirrored (aC (eV 0) aN))) sNx)
  (sSq (sIf (bAnd (bE (e2 opEq (e2 opMod (e2 opDiv (eV 1) (eC (.int 3))) (eC (.int 3))) (eC (.int 2)))) (bE (e2 opGt (eA opLen (aC (eV 2) aN)) (eC (.int 1))))) (sSq (sAs 3 (e2 opMod (e2 opDiv (eV 1) (eC (.int 9))) (e2 opSub (eA opLen (aC (eV 2) aN)) (eC (.int 1)))))
  (sSq (sAs 4 (e2 opCat (e2 opCat (eSl opSlL (eV 2) oN (oS (eV 3))) (eA mkL (aC (e2 opIx (eV 2) (e2 opAdd (eV 3) (eC (.int 1)))) (aC (e2 opIx (eV 2) (eV 3)) aN)))) (eSl opSlL (eV 2) (oS (e2 opAdd (eV 3) (eC (.int 2)))) oN)))
  (sRt (eA r__law_tree (aC (eV 4) (aC (eV 1) (aC (eC (.int 0)) (aC (eA opLen (aC (eV 4) aN)) aN)))))))) sNx)
  (sSq (sIf (bE (e2 opEq (e2 opMod (eV 1) (eC (.int 3))) (eC (.int 0)))) (sRt (eA mkT (aC (eC (.str "a")) (aC (eC .none) (aC (eV 0) aN))))) sNx)
  (sSq (sIf (bE (e2 opEq (e2 opMod (eV 1) (eC (.int 3))) (eC (.int 1)))) (sRt (e2 opIx (eV 0) (e2 opAdd (eC (.int 1)) (e2 opMod (e2 opDiv (eV 1) (eC (.int 9))) (eC (.int 2)))))) sNx)
  (sRt (eA mkT (aC (eC (.str "aa")) (aC (e2 opIx (eV 0) (eC (.int 1))) (aC (e2 opIx (eV 0) (eC (.int 2))) aN)))))))))
def R__law_bad_tree : Nat → List D → Rs D
  | 0 => fun _ => .bad
  | n + 1 => fnOf 5 3 .e (F__law_bad_tree (R__law_mirrored n) (R__law_tree n))
theorem S__law_bad_tree (n : Nat) (ds : List D) : R__law_bad_tree (n + 1) ds = fnOf 5 3 .e (F__law_bad_tree (R__law_mirrored n) (R__law_tree n)) ds := rfl
def N__law_first : List Str := ["which", "keys", "rows", "tree"]
def F__law_first (r_worths : List D → Rs D) (r_roots : List D → Rs D) (r_least : List D → Rs D) (r_best : List D → Rs D) (r_cost : List D → Rs D) (r_even : List D → Rs D) : SEnv → Rs Fl :=
  (sSq (sIf (bE (e2 opEq (eV 0) (eC (.int 0)))) (sEx (eN (eA r_worths (aC (eV 1) (aC (e2 opIx (eV 2) (eC (.int 0))) (aC (e2 opIx (eV 2) (eC (.int 1))) aN)))))) sNx)
  (sSq (sIf (bE (e2 opEq (eV 0) (eC (.int 1)))) (sEx (eN (eA r_roots (aC (eV 1) (aC (e2 opIx (eV 2) (eC (.int 0))) (aC (e2 opIx (eV 2) (eC (.int 1))) aN)))))) sNx)
  (sSq (sIf (bE (e2 opEq (eV 0) (eC (.int 2)))) (sEx (eA r_least (aC (eV 1) (aC (e2 opIx (eV 2) (eC (.int 0))) (aC (e2 opIx (eV 2) (eC (.int 1))) aN))))) sNx)
  (sSq (sIf (bE (e2 opEq (eV 0) (eC (.int 3)))) (sEx (eA r_best (aC (eV 1) (aC (e2 opIx (eV 2) (eC (.int 0))) (aC (e2 opIx (eV 2) (eC (.int 1))) aN))))) sNx)
  (sSq (sIf (bE (e2 opEq (eV 0) (eC (.int 4)))) (sEx (eA r_cost (aC (eV 1) (aC (e2 opIx (eV 2) (eC (.int 0))) (aC (e2 opIx (eV 2) (eC (.int 1))) (aC (eV 3) aN)))))) sNx)
  (sIf (bE (e2 opEq (eV 0) (eC (.int 5)))) (sEx (eA r_even (aC (eV 1) aN))) sNx))))))
def R__law_first : Nat → List D → Rs D
  | 0 => fun _ => .bad
  | n + 1 => fnOf 4 4 .e (F__law_first (R_worths n) (R_roots n) (R_least n) (R_best n) (R_cost n) (R_even n))
theorem S__law_first (n : Nat) (ds : List D) : R__law_first (n + 1) ds = fnOf 4 4 .e (F__law_first (R_worths n) (R_roots n) (R_least n) (R_best n) (R_cost n) (R_even n)) ds := rfl
def N__law_second : List Str := ["which", "keys", "tree", "good"]
def F__law_second (r_seek : List D → Rs D) (r_most_steps : List D → Rs D) (r_shown : List D → Rs D) (r_turned : List D → Rs D) (r_turns : List D → Rs D) : SEnv → Rs Fl :=
  (sSq (sIf (bE (e2 opEq (eV 0) (eC (.int 6)))) (sEx (eA r_seek (aC (eV 1) (aC (eV 2) (aC (eC (.str "b")) aN))))) sNx)
  (sSq (sIf (bE (e2 opEq (eV 0) (eC (.int 7)))) (sEx (eA r_most_steps (aC (eV 1) (aC (eV 2) aN)))) sNx)
  (sSq (sIf (bE (e2 opEq (eV 0) (eC (.int 8)))) (sEx (eA r_shown (aC (eV 1) (aC (eV 2) aN)))) sNx)
  (sSq (sIf (bE (e2 opEq (eV 0) (eC (.int 9)))) (sEx (eA r_turned (aC (eV 1) (aC (eV 2) (aC (eC (.str "qq")) aN))))) sNx)
  (sSq (sIf (bE (e2 opEq (eV 0) (eC (.int 10)))) (sEx (eA r_turns (aC (eV 1) (aC (eV 2) (aC (eV 3) aN))))) sNx)
  (sIf (bE (e2 opEq (eV 0) (eC (.int 11)))) (sEx (eA r_turns (aC (eV 1) (aC (eV 3) (aC (eV 2) aN))))) sNx))))))
def R__law_second : Nat → List D → Rs D
  | 0 => fun _ => .bad
  | n + 1 => fnOf 4 4 .e (F__law_second (R_seek n) (R_most_steps n) (R_shown n) (R_turned n) (R_turns n))
theorem S__law_second (n : Nat) (ds : List D) : R__law_second (n + 1) ds = fnOf 4 4 .e (F__law_second (R_seek n) (R_most_steps n) (R_shown n) (R_turned n) (R_turns n)) ds := rfl
def N__law_word : List Str := ["which", "keys", "rows", "tree", "good", "word", "e", "kinds"]
def F__law_word (r__law_first : List D → Rs D) (r__law_second : List D → Rs D) : SEnv → Rs Fl :=
  (sSq (sAs 5 (eC (.str "done")))
  (sSq (sTry (uS (uC (eA r__law_first (aC (eV 0) (aC (eV 1) (aC (eV 2) (aC (eV 3) aN)))))) (uC (eA r__law_second (aC (eV 0) (aC (eV 1) (aC (eV 3) (aC (eV 4) aN))))))) 6 [(["NoKeys", "NoWeights", "NoTree", "NoKey"], [], (sSq (sAs 7 (eA mkL (aC (e1 (opIsX [("NoKeys", true), ("NoWeights", false), ("NoTree", false), ("NoKey", false)]) (eV 6)) (aC (e1 (opIsX [("NoKeys", false), ("NoWeights", true), ("NoTree", false), ("NoKey", false)]) (eV 6)) (aC (e1 (opIsX [("NoKeys", false), ("NoWeights", false), ("NoTree", true), ("NoKey", false)]) (eV 6)) aN)))))
  (sSq (sAs 5 (eC (.str "other")))
  (sIf (bAnd (bE (e2 opEq (eCount (eV 7) (aC (eC (.bool true)) aN)) (eC (.int 1)))) (bE (e1 (opIsX [("NoKeys", true), ("NoWeights", true), ("NoTree", true), ("NoKey", true)]) (eV 6)))) (sAs 5 (e2 opIx (eA mkL (aC (eC (.str "keys")) (aC (eC (.str "weights")) (aC (eC (.str "tree")) aN)))) (eIndex (eV 7) (aC (eC (.bool true)) aN)))) sNx))))])
  (sRt (eV 5))))
def R__law_word : Nat → List D → Rs D
  | 0 => fun _ => .bad
  | n + 1 => fnOf 8 5 .e (F__law_word (R__law_first n) (R__law_second n))
theorem S__law_word (n : Nat) (ds : List D) : R__law_word (n + 1) ds = fnOf 8 5 .e (F__law_word (R__law_first n) (R__law_second n)) ds := rfl
def N_law_k17 : List Str := ["script", "many", "keys", "rows", "good", "tree", "due", "which", "wanted"]
def B1_law_k17 (r__law_keys : List D → Rs D) (r__law_tree : List D → Rs D) (r__law_many : List D → Rs D) (r__law_weights : List D → Rs D) (r__law_cell_at : List D → Rs D) (r__law_bad_tree : List D → Rs D) (r__law_bad_weights : List D → Rs D) (r__law_bad_keys : List D → Rs D) (r__law_word : List D → Rs D) : SEnv → Rs Fl :=
  (sSq (sAsB 8 (e2 opIx (eV 6) (eC (.int 0))))
  (sSq (sIf (bAnd (bE (e2 opEq (eV 8) (eC (.str "done")))) (bE (e2 opLt (eV 7) (eC (.int 5))))) (sAsB 8 (e2 opIx (eV 6) (eC (.int 1)))) sNx)
  (sSq (sIf (bAnd (bE (e2 opEq (eV 8) (eC (.str "done")))) (bE (e2 opIn (eV 7) (eA mkT (aC (eC (.int 4)) (aC (eC (.int 6)) (aC (eC (.int 7)) (aC (eC (.int 8)) (aC (eC (.int 9)) (aC (eC (.int 10)) (aC (eC (.int 11)) aN))))))))))) (sAsB 8 (e2 opIx (eV 6) (eC (.int 2)))) sNx)
  (sSq (sIf (bAnd (bE (e2 opEq (eV 8) (eC (.str "done")))) (bE (e2 opEq (eV 7) (eC (.int 9))))) (sAs 8 (eC (.str "other"))) sNx)
  (sIf (bE (e2 opNe (eA r__law_word (aC (eV 7) (aC (eA opList (aC (eV 2) aN)) (aC (eA mkL (aC (eA opList (aC (e2 opIx (eV 3) (eC (.int 0))) aN)) (aC (eA opList (aC (e2 opIx (eV 3) (eC (.int 1))) aN)) aN))) (aC (eV 5) (aC (eV 4) aN)))))) (eV 8))) (sRt (eC (.bool false))) sNx)))))
theorem x_B1_law_k17 (r__law_keys : List D → Rs D) (r__law_tree : List D → Rs D) (r__law_many : List D → Rs D) (r__law_weights : List D → Rs D) (r__law_cell_at : List D → Rs D) (r__law_bad_tree : List D → Rs D) (r__law_bad_weights : List D → Rs D) (r__law_bad_keys : List D → Rs D) (r__law_word : List D → Rs D) (env : SEnv) : B1_law_k17 r__law_keys r__law_tree r__law_many r__law_weights r__law_cell_at r__law_bad_tree r__law_bad_weights r__law_bad_keys r__law_word env =
  (sSq (sAsB 8 (e2 opIx (eV 6) (eC (.int 0))))
  (sSq (sIf (bAnd (bE (e2 opEq (eV 8) (eC (.str "done")))) (bE (e2 opLt (eV 7) (eC (.int 5))))) (sAsB 8 (e2 opIx (eV 6) (eC (.int 1)))) sNx)
  (sSq (sIf (bAnd (bE (e2 opEq (eV 8) (eC (.str "done")))) (bE (e2 opIn (eV 7) (eA mkT (aC (eC (.int 4)) (aC (eC (.int 6)) (aC (eC (.int 7)) (aC (eC (.int 8)) (aC (eC (.int 9)) (aC (eC (.int 10)) (aC (eC (.int 11)) aN))))))))))) (sAsB 8 (e2 opIx (eV 6) (eC (.int 2)))) sNx)
  (sSq (sIf (bAnd (bE (e2 opEq (eV 8) (eC (.str "done")))) (bE (e2 opEq (eV 7) (eC (.int 9))))) (sAs 8 (eC (.str "other"))) sNx)
  (sIf (bE (e2 opNe (eA r__law_word (aC (eV 7) (aC (eA opList (aC (eV 2) aN)) (aC (eA mkL (aC (eA opList (aC (e2 opIx (eV 3) (eC (.int 0))) aN)) (aC (eA opList (aC (e2 opIx (eV 3) (eC (.int 1))) aN)) aN))) (aC (eV 5) (aC (eV 4) aN)))))) (eV 8))) (sRt (eC (.bool false))) sNx))))) env := rfl
def F_law_k17 (r__law_keys : List D → Rs D) (r__law_tree : List D → Rs D) (r__law_many : List D → Rs D) (r__law_weights : List D → Rs D) (r__law_cell_at : List D → Rs D) (r__law_bad_tree : List D → Rs D) (r__law_bad_weights : List D → Rs D) (r__law_bad_keys : List D → Rs D) (r__law_word : List D → Rs D) : SEnv → Rs Fl :=
  (sSq (sAs 1 (eA opMax (aC (eC (.int 1)) (aC (eA r__law_many (aC (eA r__law_cell_at (aC (eV 0) (aC (eC (.int 0)) aN))) (aC (eC (.int 12)) aN))) aN))))
  (sSq (sAs 2 (eA r__law_keys (aC (eV 0) (aC (eV 1) aN))))
  (sSq (sAs 3 (eA mkL (aC (eA r__law_weights (aC (eV 0) (aC (eC (.int 2)) (aC (eV 1) aN)))) (aC (eA r__law_weights (aC (eV 0) (aC (eC (.int 15)) (aC (e2 opAdd (eV 1) (eC (.int 1))) aN)))) aN))))
  (sSq (sAs 4 (eA r__law_tree (aC (eV 2) (aC (eA r__law_cell_at (aC (eV 0) (aC (eC (.int 42)) aN))) (aC (eC (.int 0)) (aC (eV 1) aN))))))
  (sSq (sAs 5 (eV 4))
  (sSq (sNw 6 (eA mkL (aC (eC (.str "done")) (aC (eC (.str "done")) (aC (eC (.str "done")) aN)))))
  (sSq (sIf (bE (e2 opEq (e2 opMod (eA r__law_cell_at (aC (eV 0) (aC (eC (.int 43)) aN))) (eC (.int 2))) (eC (.int 1)))) (sSq (sAs 5 (eA r__law_bad_tree (aC (eV 4) (aC (e2 opDiv (eA r__law_cell_at (aC (eV 0) (aC (eC (.int 43)) aN))) (eC (.int 2))) (aC (eV 2) aN)))))
  (sIt 6 (eC (.int 2)) (eC (.str "tree")))) sNx)
  (sSq (sIf (bE (e2 opEq (e2 opMod (eA r__law_cell_at (aC (eV 0) (aC (eC (.int 44)) aN))) (eC (.int 3))) (eC (.int 1)))) (sSq (sAs 3 (eA r__law_bad_weights (aC (eV 3) (aC (e2 opDiv (eA r__law_cell_at (aC (eV 0) (aC (eC (.int 44)) aN))) (eC (.int 3))) aN))))
  (sIt 6 (eC (.int 1)) (eC (.str "weights")))) sNx)
  (sSq (sIf (bE (e2 opEq (e2 opMod (eA r__law_cell_at (aC (eV 0) (aC (eC (.int 45)) aN))) (eC (.int 3))) (eC (.int 1)))) (sSq (sAs 2 (eA r__law_bad_keys (aC (eV 2) (aC (e2 opDiv (eA r__law_cell_at (aC (eV 0) (aC (eC (.int 45)) aN))) (eC (.int 3))) aN))))
  (sIt 6 (eC (.int 0)) (eC (.str "keys")))) sNx)
  (sSq (sFor (zR1 (eC (.int 12))) (gS1 7) (B1_law_k17 r__law_keys r__law_tree r__law_many r__law_weights r__law_cell_at r__law_bad_tree r__law_bad_weights r__law_bad_keys r__law_word))
  (sRt (eC (.bool true)))))))))))))
def R_law_k17 : Nat → List D → Rs D
  | 0 => fun _ => .bad
  | n + 1 => fnOf 9 1 .e (F_law_k17 (R__law_keys n) (R__law_tree n) (R__law_many n) (R__law_weights n) (R__law_cell_at n) (R__law_bad_tree n) (R__law_bad_weights n) (R__law_bad_keys n) (R__law_word n))
theorem S_law_k17 (n : Nat) (ds : List D) : R_law_k17 (n + 1) ds = fnOf 9 1 .e (F_law_k17 (R__law_keys n) (R__law_tree n) (R__law_many n) (R__law_weights n) (R__law_cell_at n) (R__law_bad_tree n) (R__law_bad_weights n) (R__law_bad_keys n) (R__law_word n)) ds := rfl
def N__law_refuses : List Str := ["which", "cell", "tree"]
def F__law_refuses (r_even : List D → Rs D) (r_best : List D → Rs D) (r_shown : List D → Rs D) (r_turned : List D → Rs D) (r_read : List D → Rs D) : SEnv → Rs Fl :=
  (sSq (sAs 2 (eA mkT (aC (eC (.str "b")) (aC (eC .none) (aC (eC .none) aN)))))
  (sSq (sIf (bE (e2 opEq (eV 0) (eC (.int 0)))) (sEx (eA r_even (aC (eA mkL (aC (eC (.str "b")) (aC (eSl opSlS (eC (.str "abcdefgh")) oN (oS (e2 opAdd (eC (.int 1)) (e2 opMod (eV 1) (eC (.int 8)))))) aN))) aN))) sNx)
  (sSq (sIf (bE (e2 opEq (eV 0) (eC (.int 1)))) (sEx (eA r_best (aC (eA mkL (aC (eC (.str "b")) aN)) (aC (eA mkL (aC (e2 opMod (eV 1) (eC (.int 1000))) aN)) (aC (eA mkL (aC (e2 opMod (eV 1) (eC (.int 1000))) (aC (e2 opAdd (eC (.int 1000001)) (eV 1)) aN))) aN))))) sNx)
  (sSq (sIf (bE (e2 opEq (eV 0) (eC (.int 2)))) (sEx (eA r_shown (aC (eA mkL (aC (eC (.str "b")) (aC (e2 opAdd (eC (.str "c")) (e2 opRep (eC (.str "x")) (e2 opMod (eV 1) (eC (.int 7))))) aN))) (aC (eV 2) aN)))) sNx)
  (sSq (sIf (bE (e2 opEq (eV 0) (eC (.int 3)))) (sEx (eA r_turned (aC (eA mkL (aC (eC (.str "b")) aN)) (aC (eV 2) (aC (e2 opRep (eC (.str "c")) (e2 opAdd (eC (.int 1)) (e2 opMod (eV 1) (eC (.int 8))))) aN))))) sNx)
  (sSq (sIf (bE (e2 opEq (eV 0) (eC (.int 4)))) (sEx (eA r_turned (aC (eA mkL (aC (eC (.str "b")) aN)) (aC (eV 2) (aC (eC (.str "b")) aN))))) sNx)
  (sIf (bE (e2 opEq (eV 0) (eC (.int 5)))) (sEx (eA r_read (aC (e2 opAdd (e2 opAdd (eC (.str "(- ")) (e2 opRep (eC (.str "b")) (e2 opAdd (eC (.int 9)) (e2 opMod (eV 1) (eC (.int 9)))))) (eC (.str " -)"))) aN))) sNx)))))))
def R__law_refuses : Nat → List D → Rs D
  | 0 => fun _ => .bad
  | n + 1 => fnOf 3 2 .e (F__law_refuses (R_even n) (R_best n) (R_shown n) (R_turned n) (R_read n))
theorem S__law_refuses (n : Nat) (ds : List D) : R__law_refuses (n + 1) ds = fnOf 3 2 .e (F__law_refuses (R_even n) (R_best n) (R_shown n) (R_turned n) (R_read n)) ds := rfl
def N__law_classes : List Str := ["e", "found"]
def F__law_classes : SEnv → Rs Fl :=
  (sSq (sAs 1 (eA mkL (aC (e1 (opIsX [("NoKeys", true), ("NoWeights", false), ("NoTree", false), ("NoKey", false), ("AtRoot", false), ("BadText", false)]) (eV 0)) (aC (e1 (opIsX [("NoKeys", false), ("NoWeights", true), ("NoTree", false), ("NoKey", false), ("AtRoot", false), ("BadText", false)]) (eV 0)) (aC (e1 (opIsX [("NoKeys", false), ("NoWeights", false), ("NoTree", true), ("NoKey", false), ("AtRoot", false), ("BadText", false)]) (eV 0)) (aC (e1 (opIsX [("NoKeys", false), ("NoWeights", false), ("NoTree", false), ("NoKey", true), ("AtRoot", false), ("BadText", false)]) (eV 0)) aN))))))
  (sRt (e2 opCat (eV 1) (eA mkL (aC (e1 (opIsX [("NoKeys", false), ("NoWeights", false), ("NoTree", false), ("NoKey", false), ("AtRoot", true), ("BadText", false)]) (eV 0)) (aC (e1 (opIsX [("NoKeys", false), ("NoWeights", false), ("NoTree", false), ("NoKey", false), ("AtRoot", false), ("BadText", true)]) (eV 0)) aN))))))
def R__law_classes : Nat → List D → Rs D
  | 0 => fun _ => .bad
  | n + 1 => fnOf 2 1 .o (F__law_classes)
theorem S__law_classes (n : Nat) (ds : List D) : R__law_classes (n + 1) ds = fnOf 2 1 .o (F__law_classes) ds := rfl
def N__law_caught : List Str := ["which", "cell", "found", "value", "e", "k"]
def F__law_caught (r__law_refuses : List D → Rs D) (r__law_classes : List D → Rs D) : SEnv → Rs Fl :=
  (sSq (sAs 2 (eA mkL aN))
  (sSq (sAs 3 (eC (.bool false)))
  (sSq (sTry (uC (eA r__law_refuses (aC (eV 0) (aC (eV 1) aN)))) 4 [(["NoKeys", "NoWeights", "NoTree", "NoKey", "AtRoot", "BadText"], [], (sSq (sAs 2 (eA r__law_classes (aC (eV 4) aN)))
  (sAs 3 (e1 (opIsX [("NoKeys", true), ("NoWeights", true), ("NoTree", true), ("NoKey", true), ("AtRoot", true), ("BadText", true)]) (eV 4)))))])
  (sRt (eAnd (eV 3) (e2 opEq (eV 2) (eLc (zR1 (eC (.int 6))) [5] 5 yesB (e2 opEq (eV 5) (eV 0)))))))))
def R__law_caught : Nat → List D → Rs D
  | 0 => fun _ => .bad
  | n + 1 => fnOf 6 2 .e (F__law_caught (R__law_refuses n) (R__law_classes n))
theorem S__law_caught (n : Nat) (ds : List D) : R__law_caught (n + 1) ds = fnOf 6 2 .e (F__law_caught (R__law_refuses n) (R__law_classes n)) ds := rfl
def N_law_k18 : List Str := ["script", "cell", "k"]
def B1_law_k18 (r__law_cell_at : List D → Rs D) (r__law_caught : List D → Rs D) : SEnv → Rs Fl :=
  (sIf (bNot (bE (eA r__law_caught (aC (e2 opMod (e2 opAdd (eA r__law_cell_at (aC (eV 0) (aC (eC (.int 0)) aN))) (eV 2)) (eC (.int 6))) (aC (eV 1) aN))))) (sRt (eC (.bool false))) sNx)
theorem x_B1_law_k18 (r__law_cell_at : List D → Rs D) (r__law_caught : List D → Rs D) (env : SEnv) : B1_law_k18 r__law_cell_at r__law_caught env =
  (sIf (bNot (bE (eA r__law_caught (aC (e2 opMod (e2 opAdd (eA r__law_cell_at (aC (eV 0) (aC (eC (.int 0)) aN))) (eV 2)) (eC (.int 6))) (aC (eV 1) aN))))) (sRt (eC (.bool false))) sNx) env := rfl
def F_law_k18 (r__law_cell_at : List D → Rs D) (r__law_caught : List D → Rs D) : SEnv → Rs Fl :=
  (sSq (sAs 1 (e2 opMod (eA r__law_cell_at (aC (eV 0) (aC (eC (.int 1)) aN))) (eC (.int 999983))))
  (sSq (sFor (zR1 (eC (.int 6))) (gS1 2) (B1_law_k18 r__law_cell_at r__law_caught))
  (sRt (eC (.bool true)))))
def R_law_k18 : Nat → List D → Rs D
  | 0 => fun _ => .bad
  | n + 1 => fnOf 3 1 .e (F_law_k18 (R__law_cell_at n) (R__law_caught n))
theorem S_law_k18 (n : Nat) (ds : List D) : R_law_k18 (n + 1) ds = fnOf 3 1 .e (F_law_k18 (R__law_cell_at n) (R__law_caught n)) ds := rfl
end Sk

namespace Sk
open PySem PySem.Spec PyProof.Rows L2

/-! ### words as lists of signs -/
abbrev Wd := List Nat
def dS (l : Wd) : D := .str ⟨l.toArray⟩
def dI (i : Int) : D := .int i
def dB (b : Bool) : D := .bool b
def dLI (l : List Int) : D := .list (l.map .int)
def dLS (l : List Wd) : D := .list (l.map dS)
def dLB (l : List Bool) : D := .list (l.map .bool)

/-! ### evaluation -/
section
variable {α β : Type}
@[simp] theorem ok_bind' (a : α) (f : α → Rs β) : (Rs.ok a).bind f = f a := (rfl)
@[simp] theorem exc_bind' (x : String) (f : α → Rs β) : (Rs.exc x : Rs α).bind f = .exc x := (rfl)
@[simp] theorem bad_bind' (f : α → Rs β) : (Rs.bad : Rs α).bind f = .bad := (rfl)
theorem bind_ok' (r : Rs α) : r.bind .ok = r := by cases r <;> rfl
theorem ite_bind {c : Prop} [Decidable c] (a b : Rs α) (f : α → Rs β) : (if c then a else b).bind f = if c then a.bind f else b.bind f := by split <;> rfl
theorem bind_assoc {γ : Type} (r : Rs α) (f : α → Rs β) (g : β → Rs γ) : (r.bind f).bind g = r.bind fun a => (f a).bind g := by cases r <;> rfl
end
section
variable {ev : Ev} {env : SEnv} {fa fb fc fe fd f1 f2 : Ev → Rs D} {fr : Ev → Rs (List D)} {ga gb : Ev → Rs Bool} {f g : SEnv → Rs Fl} {d : D}
@[simp] theorem x_V (i : Nat) : eV i ev = match ev[i]? with | some (some d) => .ok d | _ => .bad := (rfl)
@[simp] theorem x_C (d : D) : eC d ev = .ok d := (rfl)
@[simp] theorem x_2 (op : D → D → Rs D) : e2 op fa fb ev = (fa ev).bind fun a => (fb ev).bind fun b => op a b := (rfl)
@[simp] theorem x_1 (op : D → Rs D) : e1 op fa ev = (fa ev).bind op := (rfl)
@[simp] theorem x_N : aN ev = .ok [] := (rfl)
@[simp] theorem x_aC : aC fa fr ev = (fa ev).bind fun a => (fr ev).bind fun r => .ok (a :: r) := (rfl)
@[simp] theorem x_A (op : List D → Rs D) : eA op fr ev = (fr ev).bind op := (rfl)
@[simp] theorem x_bE : bE fe ev = (fe ev).bind asB := (rfl)
@[simp] theorem x_bAnd : bAnd ga gb ev = (ga ev).bind fun a => if a = true then gb ev else .ok false := (rfl)
@[simp] theorem x_bOr : bOr ga gb ev = (ga ev).bind fun a => if a = true then .ok true else gb ev := (rfl)
@[simp] theorem x_bNot : bNot ga ev = (ga ev).bind fun a => .ok (!a) := (rfl)
@[simp] theorem x_And : eAnd fa fb ev = (fa ev).bind fun a => (asB a).bind fun a => if a = true then fb ev else .ok (.bool false) := (rfl)
@[simp] theorem x_Or : eOr fa fb ev = (fa ev).bind fun a => (asB a).bind fun a => if a = true then .ok (.bool true) else fb ev := (rfl)
@[simp] theorem x_Not : eNot fa ev = (fa ev).bind fun a => (asB a).bind fun a => .ok (.bool (!a)) := (rfl)
@[simp] theorem x_Ch (op op' : D → D → Rs D) : eCh op op' fa fb fc ev = (fa ev).bind fun a => (fb ev).bind fun b => (op a b).bind fun z => (asB z).bind fun k => if k = true then (fc ev).bind fun c => op' b c else .ok (.bool false) := (rfl)
@[simp] theorem x_oN : oN ev = .ok none := (rfl)
@[simp] theorem x_oS : oS fe ev = (fe ev).bind asI := (rfl)
@[simp] theorem x_Sl (op : D → Option Int → Option Int → Rs D) (fl fh : Ev → Rs (Option Int)) : eSl op fe fl fh ev = (fe ev).bind fun a => (fl ev).bind fun l => (fh ev).bind fun h => op a l h := (rfl)
@[simp] theorem x_Index : eIndex fe fr ev = (fe ev).bind fun a => lstB a fun ds => (fr ev).bind fun r => opIndex ds r := (rfl)
@[simp] theorem x_Met (op : Str → List D → Rs D) : eMet op fe fr ev = (fe ev).bind fun a => strB a fun z => (fr ev).bind fun r => op z r := (rfl)
@[simp] theorem x_Dg : eDg fd f1 f2 ev = (fd ev).bind fun d => dicB d fun ps => (f1 ev).bind fun a => intB a fun a => (f2 ev).bind fun b => intB b fun b => rsI (getIP ps (a, b)) := (rfl)
@[simp] theorem x_yes : yesB ev = .ok true := (rfl)
@[simp] theorem x_R1 : zR1 fa ev = (fa ev).bind rng1 := (rfl)
@[simp] theorem x_R2 : zR2 fa fb ev = (fa ev).bind fun a => (fb ev).bind fun b => rng2 a b := (rfl)
@[simp] theorem x_zL : zLst fa ev = (fa ev).bind lstR := (rfl)
@[simp] theorem x_zT : zTup fa ev = (fa ev).bind tupR := (rfl)
@[simp] theorem x_zS : zStr fa ev = (fa ev).bind strR := (rfl)
@[simp] theorem x_zZ : zZip fa fb ev = (fa ev).bind fun a => (fb ev).bind fun b => zipR a b := (rfl)
@[simp] theorem x_Lc (fs : Ev → Rs (List D)) (vs : List Nat) (i : Nat) (gp : Ev → Rs Bool) : eLc fs vs i gp fe ev = (fs ev).bind fun items => if items.length ≤ 100000 then
    (mapF (fun d => gp ((wipeE ev vs).set i (some d))) (fun d => fe ((wipeE ev vs).set i (some d))) items).bind fun ys => .ok (.list ys) else .bad := (rfl)
@[simp] theorem x_wn : wipeE ev [] = ev := (rfl)
@[simp] theorem x_wc (v : Nat) (vs : List Nat) : wipeE ev (v :: vs) = (wipeE ev vs).set v none := (rfl)
@[simp] theorem x_Nx : sNx env = .ok (.nx env) := (rfl)
@[simp] theorem x_Sq : sSq f g env = (f env).bind fun r => match r with
  | .nx e => g e
  | .rt d => .ok (.rt d)
  | .bk e => .ok (.bk e)
  | .ct e => .ok (.ct e) := (rfl)
@[simp] theorem x_If (c : Ev → Rs Bool) : sIf c f g env = (c (allV env)).bind fun b => if b = true then f env else g env := (rfl)
@[simp] theorem x_As (i : Nat) : sAs i fe env = (fe (hidV env)).bind fun d => .ok (.nx (env.set i (.sh d))) := (rfl)
@[simp] theorem x_AsB (i : Nat) : sAsB i fe env = (fe (allV env)).bind fun d => if flat d = true then .ok (.nx (env.set i (.sh d))) else .bad := (rfl)
@[simp] theorem x_Nw (i : Nat) : sNw i fe env = (fe (hidV env)).bind fun d => .ok (.nx (env.set i (.ow d))) := (rfl)
@[simp] theorem x_NwB (i : Nat) : sNwB i fe env = (fe (allV env)).bind fun d => if flatI d = true then .ok (.nx (env.set i (.ow d))) else .bad := (rfl)
@[simp] theorem x_Ex : sEx fe env = (fe (allV env)).bind fun _ => .ok (.nx env) := (rfl)
@[simp] theorem x_Rt : sRt fe env = (fe (allV env)).bind fun d => .ok (.rt d) := (rfl)
@[simp] theorem x_RtV (i : Nat) : sRtV i env = match env[i]? with | some (.ow d) => .ok (.rt d) | _ => .bad := (rfl)
@[simp] theorem x_Raise (x : String) : sRaise x env = .exc x := (rfl)
@[simp] theorem x_Ap (i : Nat) : sAp i fe env = owL env[i]? fun ds => (fe (hidV env)).bind fun d => if ds.length ≤ 100000 then .ok (.nx (env.set i (.ow (.list (ds ++ [d]))))) else .bad := (rfl)
@[simp] theorem x_Xt (i : Nat) : sXt i fe env = owL env[i]? fun ds => (fe (hidV env)).bind fun d => lstB d fun es => if ds.length + es.length ≤ 100000 then .ok (.nx (env.set i (.ow (.list (ds ++ es))))) else .bad := (rfl)
@[simp] theorem x_owL {α : Type} (ds : List D) (k : List D → Rs α) : owL (some (.ow (.list ds))) k = k ds := (rfl)
@[simp] theorem x_owD {α : Type} (ps : IP) (k : IP → Rs α) : owD (some (.ow (.dict (ddt ps)))) k = k ps := by unfold owD; simp [ipOf_ddt]
@[simp] theorem x_dicB {α : Type} (ps : IP) (k : IP → Rs α) : dicB (.dict (ddt ps)) k = k ps := by unfold dicB; simp [ipOf_ddt]
@[simp] theorem x_intB {α : Type} (i : Int) (k : Int → Rs α) : intB (.int i) k = k i := (rfl)
@[simp] theorem x_lstB {α : Type} (i : List D) (k : List D → Rs α) : lstB (.list i) k = k i := (rfl)
@[simp] theorem x_strB {α : Type} (i : Str) (k : Str → Rs α) : strB (.str i) k = k i := (rfl)
@[simp] theorem x_It (k : Nat) (fi : Ev → Rs D) : sIt k fi fe env = owL env[k]? fun ds => (fe (allV env)).bind fun d => if flat d = true then (fi (hidV env)).bind fun ix => (match ix with
  | .int j => (match ixN ds.length j with
    | some n => .ok (.nx (env.set k (.ow (.list (ds.set n d)))))
    | none => .bad)
  | _ => .bad) else .bad := (rfl)
@[simp] theorem x_Dp (k : Nat) : sDp k f1 f2 fe env = owD env[k]? fun ps => (fe (allV env)).bind fun d => intB d fun z => (f1 (hidV env)).bind fun a => intB a fun a => (f2 (hidV env)).bind fun b => intB b fun b =>
  if ps.length ≤ 100000 then .ok (.nx (env.set k (.ow (.dict (ddt (putIP ps (a, b) z)))))) else .bad := (rfl)
@[simp] theorem x_For (fs : Ev → Rs (List D)) (asg : D → SEnv → Rs SEnv) : sFor fs asg f env = (fs (hidV env)).bind fun items => loopF asg f items env := (rfl)
@[simp] theorem x_gS1 (i : Nat) : gS1 i d env = .ok (env.set i (.sh d)) := (rfl)
@[simp] theorem x_gS2 (i j : Nat) (a b : D) : gS2 i j (.tuple [a, b]) env = .ok ((env.set i (.sh a)).set j (.sh b)) := (rfl)
@[simp] theorem x_fn (m ar : Nat) (om : Om) (fs : SEnv → Rs Fl) (ds : List D) : fnOf m ar om fs ds = if ds.length = ar then (fs (ds.map Sl.sh ++ List.replicate (m - ar) Sl.un)).bind (endF om) else .bad := (rfl)
@[simp] theorem x_end (om : Om) (d : D) : endF om (.rt d) = .ok d := (rfl)
@[simp] theorem x_end2 (e : SEnv) : endF .e (.nx e) = .ok .none := (rfl)
@[simp] theorem x_hid0 : hidV [] = [] := (rfl)
@[simp] theorem x_hid1 (s : Sl) (l : SEnv) : hidV (s :: l) = s.hid :: hidV l := (rfl)
@[simp] theorem x_all0 : allV [] = [] := (rfl)
@[simp] theorem x_all1 (s : Sl) (l : SEnv) : allV (s :: l) = s.all :: allV l := (rfl)
@[simp] theorem x_h1 (d : D) : (Sl.sh d).hid = some d := (rfl)
@[simp] theorem x_h2 (d : D) : (Sl.ow d).hid = none := (rfl)
@[simp] theorem x_h3 : Sl.un.hid = none := (rfl)
@[simp] theorem x_a1 (d : D) : (Sl.sh d).all = some d := (rfl)
@[simp] theorem x_a2 (d : D) : (Sl.ow d).all = some d := (rfl)
@[simp] theorem x_a3 : Sl.un.all = none := (rfl)
@[simp] theorem x_asB (b : Bool) : asB (.bool b) = .ok b := (rfl)
@[simp] theorem x_asI (i : Int) : asI (.int i) = .ok (some i) := (rfl)
end
/-! operations -/
section
variable (i j : Int) (a b : Wd) (xs ys : List D)
@[simp] theorem o_addI : opAdd (.int i) (.int j) = .ok (.int (i + j)) := (rfl)
@[simp] theorem o_addS : opAdd (dS a) (dS b) = if a.length + b.length ≤ 100000 then .ok (dS (a ++ b)) else .bad := by
  unfold dS opAdd
  simp only [Str.length, List.size_toArray]
  have : (({ cps := a.toArray } : Str) ++ { cps := b.toArray }) = { cps := (a ++ b).toArray } := by
    show Str.mk (a.toArray ++ b.toArray) = _
    simp
  rw [this]
@[simp] theorem o_sub : opSub (.int i) (.int j) = .ok (.int (i - j)) := (rfl)
@[simp] theorem o_mul : opMul (.int i) (.int j) = if cmul i j = true then .ok (.int (i * j)) else .bad := (rfl)
@[simp] theorem o_div : opDiv (.int i) (.int j) = if 0 < j ∧ j < 1073741824 then .ok (.int (i / j)) else .bad := (rfl)
@[simp] theorem o_mod : opMod (.int i) (.int j) = if 0 < j then .ok (.int (i % j)) else .bad := (rfl)
@[simp] theorem o_neg : opNeg (.int i) = .ok (.int (-i)) := (rfl)
@[simp] theorem o_cat : opCat (.list xs) (.list ys) = if xs.length + ys.length ≤ 100000 then .ok (.list (xs ++ ys)) else .bad := (rfl)
@[simp] theorem o_ltI : opLt (.int i) (.int j) = .ok (.bool (decide (i < j))) := (rfl)
@[simp] theorem o_gtI : opGt (.int i) (.int j) = .ok (.bool (decide (j < i))) := (rfl)
@[simp] theorem o_leI : opLe (.int i) (.int j) = .ok (.bool (decide (i ≤ j))) := (rfl)
@[simp] theorem o_geI : opGe (.int i) (.int j) = .ok (.bool (decide (j ≤ i))) := (rfl)
@[simp] theorem o_ltS : opLt (dS a) (dS b) = .ok (.bool (decide (a < b))) := (rfl)
@[simp] theorem o_gtS : opGt (dS a) (dS b) = .ok (.bool (decide (b < a))) := (rfl)
@[simp] theorem o_leS : opLe (dS a) (dS b) = .ok (.bool (!decide (b < a))) := (rfl)
theorem dS_inj {a b : Wd} (h : dS a = dS b) : a = b := by
  unfold dS at h
  injection h with h
  injection h with h
  have := congrArg Array.toList h
  simpa using this
theorem strEq : (({ cps := a.toArray } : Str) = { cps := b.toArray }) ↔ a = b := by
  constructor
  · intro h
    injection h with h
    have := congrArg Array.toList h
    simpa using this
  · intro h; rw [h]
theorem shI : SeqAt.shaped (.int i) = true := by unfold SeqAt.shaped PyData.canLay0 PyData.depth; simp
@[simp] theorem o_eqI : opEq (.int i) (.int j) = .ok (.bool (decide (i = j))) := (rfl)
@[simp] theorem o_neI : opNe (.int i) (.int j) = .ok (.bool (!decide (i = j))) := (rfl)
@[simp] theorem o_eqS : opEq (dS a) (dS b) = .ok (.bool (decide (a = b))) := by
  show Rs.ok (PyData.bool (decide (({ cps := a.toArray } : Str) = { cps := b.toArray }))) = _
  rw [decide_eq_decide.mpr (strEq a b)]
@[simp] theorem o_neS : opNe (dS a) (dS b) = .ok (.bool (!decide (a = b))) := by
  show Rs.ok (PyData.bool (!decide (({ cps := a.toArray } : Str) = { cps := b.toArray }))) = _
  rw [decide_eq_decide.mpr (strEq a b)]
@[simp] theorem o_isN (d : D) : opIs d .none = .ok (.bool (isNone d)) := by cases d <;> rfl
@[simp] theorem o_isnN (d : D) : opIsN d .none = .ok (.bool (!isNone d)) := by cases d <;> rfl
@[simp] theorem o_ixL : opIx (.list xs) (.int i) = rsO (atI xs i) := (rfl)
@[simp] theorem o_ixT : opIx (.tuple xs) (.int i) = rsO (atI xs i) := (rfl)
@[simp] theorem o_ixS : opIx (dS a) (.int i) = if a.length ≤ 100000 then rsO ((atI a i).map fun c => dS [c]) else .bad := (rfl)
@[simp] theorem o_lenL : opLen [.list xs] = .ok (.int xs.length) := (rfl)
@[simp] theorem o_lenT : opLen [.tuple xs] = .ok (.int xs.length) := (rfl)
@[simp] theorem o_lenS : opLen [dS a] = if a.length ≤ 100000 then .ok (.int a.length) else .bad := (rfl)
@[simp] theorem o_min2 : opMin [.int i, .int j] = .ok (.int (if j < i then j else i)) := (rfl)
@[simp] theorem o_max2 : opMax [.int i, .int j] = .ok (.int (if j > i then j else i)) := (rfl)
@[simp] theorem o_sum (l : List Int) : opSum [dLI l] = .ok (.int l.sum) := by simp [opSum, dLI, intsOf_map, rsI]
@[simp] theorem o_all (l : List Bool) : opAll [dLB l] = .ok (.bool (l.all id)) := by simp [opAll, dLB, boolsOf_map, rsB]
@[simp] theorem o_intI : opInt [.int i] = .ok (.int i) := (rfl)
@[simp] theorem o_intB (b : Bool) : opInt [.bool b] = .ok (.int (if b = true then 1 else 0)) := (rfl)
@[simp] theorem o_listL : opList [.list xs] = .ok (.list xs) := (rfl)
@[simp] theorem o_listT : opList [.tuple xs] = .ok (.list xs) := (rfl)
@[simp] theorem o_rev : opRev (.list xs) = .ok (.list xs.reverse) := (rfl)
@[simp] theorem o_slL (lo hi : Option Int) : opSlL (.list xs) lo hi = .ok (.list (cutD xs lo hi)) := (rfl)
@[simp] theorem o_slT (lo hi : Option Int) : opSlT (.tuple xs) lo hi = .ok (.tuple (cutD xs lo hi)) := (rfl)
@[simp] theorem o_slS (lo hi : Option Int) : opSlS (dS a) lo hi = if a.length ≤ 100000 then .ok (dS (cutD a lo hi)) else .bad := (rfl)
@[simp] theorem o_lstR : lstR (.list xs) = .ok xs := (rfl)
@[simp] theorem o_tupR : tupR (.tuple xs) = .ok xs := (rfl)
@[simp] theorem o_strR : strR (dS a) = .ok (a.map fun c => dS [c]) := (rfl)
@[simp] theorem o_mkL : mkL xs = if xs.length ≤ 1000 then .ok (.list xs) else .bad := (rfl)
@[simp] theorem o_mkT : mkT xs = if xs.length ≤ 1000 then .ok (.tuple xs) else .bad := (rfl)
@[simp] theorem o_rsO (d : D) : rsO (some d) = .ok d := (rfl)
@[simp] theorem o_rsI (i : Int) : rsI (some i) = .ok (.int i) := (rfl)
@[simp] theorem o_rsB (i : Bool) : rsB (some i) = .ok (.bool i) := (rfl)
end
/-! ### cell_at, mix, many -/
theorem atI_nat {α : Type} {l : List α} {i : Int} (h : 0 ≤ i) : atI l i = l[i.toNat]? := by
  unfold atI ixN
  rw [if_pos h]
  by_cases c : i < l.length
  · rw [if_pos c]; rfl
  · rw [if_neg c]
    exact (List.getElem?_eq_none (by omega)).symm
def cellAt (ns : List Int) (k : Int) : Int := ns.getD k.toNat 0
theorem r_cell (n : Nat) (ns : List Int) (k : Int) (h0 : 0 ≤ k) : R__law_cell_at (n + 1) [dLI ns, .int k] = .ok (.int (cellAt ns k)) := by
  simp [R__law_cell_at, F__law_cell_at, dLI, atI_nat h0, cellAt]
  by_cases h : k < ns.length
  · have h2 : k.toNat < ns.length := by omega
    simp [h, h2, List.getElem?_eq_getElem h2]
  · have h2 : ns.length ≤ k.toNat := by omega
    simp [h, List.getElem?_eq_none h2]
def mixF (cell k : Int) : Int :=
  let s := (cell * 48271 + 104729 * k + 11) % 2147483647
  let s := (s * s + 7919 * k + 5) % 2147483629
  s * s % 2147483587
theorem cmul_r {i j : Int} (h : 0 ≤ j) (h2 : j < 4294967296) : cmul i j = true := by unfold cmul; exact decide_eq_true (.inr ⟨by omega, by omega⟩)
theorem cmul_l {i j : Int} (h : 0 ≤ i) (h2 : i < 4294967296) : cmul i j = true := by unfold cmul; exact decide_eq_true (.inl ⟨by omega, by omega⟩)
theorem cmul_mod (a b j : Int) (h : 0 < b) (h2 : b ≤ 4294967296) : cmul (a % b) j = true := cmul_l (Int.emod_nonneg _ (by omega)) (by have := Int.emod_lt_of_pos a h; omega)
theorem r_mix (n : Nat) (cell k : Int) : R__law_mix (n + 1) [.int cell, .int k] = .ok (.int (mixF cell k)) := by
  simp [R__law_mix, F__law_mix, mixF, cmul_r, cmul_l, cmul_mod]
theorem mix_pos (cell k : Int) : 0 ≤ mixF cell k := Int.emod_nonneg _ (by decide)
def manyF (cell most : Int) : Int := if cell / 7 % 4 = 1 then cell / 28 % (most + 1) else cell % (min 7 (most + 1))
theorem r_many (n : Nat) (cell most : Int) (h : 0 ≤ most) : R__law_many (n + 1) [.int cell, .int most] = .ok (.int (manyF cell most)) := by
  simp [R__law_many, F__law_many, manyF]
  by_cases c : cell / 7 % 4 = 1
  · have h1 : 0 < most + 1 := by omega
    simp [c, h1]
  · simp [c]
    have e : (if most + 1 < 7 then most + 1 else 7) = min 7 (most + 1) := by split <;> omega
    rw [e]
    have : 0 < min 7 (most + 1) := by omega
    simp [this]
theorem many_rng (cell most : Int) (h : 0 ≤ most) : 0 ≤ manyF cell most ∧ manyF cell most ≤ most := by
  unfold manyF
  split
  · have := Int.emod_nonneg (cell / 28) (b := most + 1) (by omega)
    have := Int.emod_lt_of_pos (cell / 28) (b := most + 1) (by omega)
    omega
  · have h2 : 0 < min 7 (most + 1) := by omega
    have := Int.emod_nonneg cell (b := min 7 (most + 1)) (by omega)
    have := Int.emod_lt_of_pos cell h2
    omega

/-! ### loops and comprehensions -/
theorem mapF_list {α : Type} {p : D → Rs Bool} {f : D → Rs D} (c : α → D) (q : α → Bool) (g : α → D) : ∀ l : List α, (∀ x ∈ l, p (c x) = .ok (q x) ∧ (q x = true → f (c x) = .ok (g x))) → mapF p f (l.map c) = .ok ((l.filter q).map g)
  | [], _ => rfl
  | x :: l, h => by
    have ih := mapF_list c q g l fun y hy => h y (List.mem_cons_of_mem _ hy)
    obtain ⟨h1, h2⟩ := h x List.mem_cons_self
    rw [List.map_cons]
    unfold mapF
    rw [h1]
    cases hq : q x with
    | true =>
      simp only [h2 hq, ih, Rs.ok_bind, List.filter_cons, hq, if_true, List.map_cons]
    | false =>
      simp only [ih, List.filter_cons, hq]
      rfl
theorem mapF_all {α : Type} {f : D → Rs D} (c : α → D) (g : α → D) (l : List α) (h : ∀ x ∈ l, f (c x) = .ok (g x)) : mapF (fun _ => .ok true) f (l.map c) = .ok (l.map g) := by
  rw [mapF_list c (fun _ => true) g l fun x hx => ⟨rfl, fun _ => h x hx⟩, List.filter_eq_self.mpr (fun _ _ => rfl)]
theorem loop_ok {α : Type} {asg : D → SEnv → Rs SEnv} {body : SEnv → Rs Fl} (c : α → D) (I : Nat → SEnv → Prop) : ∀ (l : List α) (k : Nat) (env : SEnv),
    (∀ i x env, l[i]? = some x → I (k + i) env → ∃ env1, asg (c x) env = .ok env1 ∧ ∃ e, (body env1 = .ok (.nx e) ∨ body env1 = .ok (.ct e)) ∧ I (k + i + 1) e) → I k env →
    ∃ e, loopF asg body (l.map c) env = .ok (.nx e) ∧ I (k + l.length) e
  | [], k, env, _, h => ⟨env, rfl, h⟩
  | x :: l, k, env, st, h => by
    obtain ⟨env1, h1, e, h2, h3⟩ := st 0 x env rfl h
    obtain ⟨e', h4, h5⟩ := loop_ok c I l (k + 1) e (fun i y env hy hi => by
      have := st (i + 1) y env hy (by rw [← Nat.add_assoc, Nat.add_right_comm]; exact hi)
      rw [← Nat.add_assoc, Nat.add_right_comm k i 1] at this
      exact this) h3
    refine ⟨e', ?_, by rw [List.length_cons, ← Nat.add_assoc, Nat.add_right_comm]; exact h5⟩
    rw [List.map_cons]
    unfold loopF
    rw [h1]
    rcases h2 with h2 | h2 <;> simp only [Rs.ok_bind, h2, h4]
theorem rng1_eq (j : Int) (h : -1000000 ≤ j ∧ j ≤ 1000000) : rng1 (.int j) = .ok ((List.range j.toNat).map fun k : Nat => .int (k : Int)) := by
  simp [rng1, h]
theorem rng2_eq (i j : Int) (h : (-1000000 ≤ i ∧ i ≤ 1000000) ∧ -1000000 ≤ j ∧ j ≤ 1000000) : rng2 (.int i) (.int j) = .ok ((List.range (j - i).toNat).map fun k : Nat => .int (i + (k : Int))) := by
  simp only [rng2, if_pos h]
/-! ### slices of lists -/
theorem sIx_nn (n d : Nat) (k : Int) (h : 0 ≤ k) : HT.sIx n d (some k) = min k.toNat n := by
  show (if k < 0 then (k + (n : Int)).toNat else min k.toNat n) = min k.toNat n
  rw [if_neg (by omega)]
theorem cut_take {α : Type} (l : List α) (k : Int) (h : 0 ≤ k) : cutD l none (some k) = l.take k.toNat := by
  unfold cutD
  rw [HT.sIx_none, sIx_nn _ _ _ h, List.drop_zero, Nat.sub_zero, Nat.min_comm]
  by_cases c : k.toNat ≤ l.length
  · rw [Nat.min_eq_right c]
  · rw [Nat.min_eq_left (by omega), List.take_of_length_le (Nat.le_refl _), List.take_of_length_le (by omega)]
theorem cut_drop {α : Type} (l : List α) (k : Int) (h : 0 ≤ k) : cutD l (some k) none = l.drop k.toNat := by
  unfold cutD
  rw [HT.sIx_none, sIx_nn _ _ _ h]
  by_cases c : k.toNat ≤ l.length
  · rw [Nat.min_eq_left c, List.take_of_length_le (by rw [List.length_drop]; omega)]
  · rw [Nat.min_eq_right (by omega), List.drop_of_length_le (Nat.le_refl _), List.drop_of_length_le (by omega)]; simp
theorem cut_mid {α : Type} (l : List α) (i j : Int) (h : 0 ≤ i) (h2 : i ≤ j) (h3 : j ≤ l.length) : cutD l (some i) (some j) = (l.drop i.toNat).take (j - i).toNat := by
  unfold cutD
  rw [sIx_nn _ _ _ h, sIx_nn _ _ _ (by omega), Nat.min_eq_left (by omega), Nat.min_eq_left (by omega)]
  congr 1
  omega
/-! ### the keys -/
def cabs : Wd := [99, 97, 98, 99, 97, 98, 99, 97, 98]
def preW : Wd := [97, 98, 122, 109]
def letW : Wd := [98, 100, 102, 104, 106, 108, 110, 112, 114, 116, 118, 120]
def letC (k : Nat) : Nat := letW.getD k 0
def tailW : Wd := [100, 99, 98, 97, 122, 121, 120]
def keysF (ns : List Int) (many : Int) : List Wd :=
  if cellAt ns 28 / 4 % 4 = 1 ∧ many ≤ 8 then (List.range many.toNat).map fun k => cabs.take (k + 1)
  else (List.range many.toNat).map fun k => preW.take (cellAt ns 28 % 4).toNat ++ [letC k] ++ tailW.take (cellAt ns (29 + k) % 5).toNat
theorem lit_cab : (PyData.str "cab") = dS [99, 97, 98] := by unfold dS; congr 1
theorem lit_tail : (PyData.str "dcbazyx") = dS tailW := by unfold dS; congr 1
theorem lit_pre : (PyData.str "abzm") = dS preW := by unfold dS; congr 1
theorem lit_let : (PyData.str "bdfhjlnprtvx") = dS letW := by unfold dS; congr 1
theorem cab3 : opRep (dS [99, 97, 98]) (.int 3) = .ok (dS cabs) := by
  unfold dS
  simp only [opRep]
  rw [if_pos (by decide)]
  congr 1
def keyB (ns : List Int) (cell : Int) (k : Nat) : Wd := preW.take (cell % 4).toNat ++ [letC k] ++ tailW.take (cellAt ns (29 + k) % 5).toNat
theorem loop_eq {α : Type} {asg : D → SEnv → Rs SEnv} {body : SEnv → Rs Fl} (c : α → D) (S : Nat → SEnv → Prop) (l : List α) (env : SEnv) (h0 : S 0 env) (st : ∀ i x env, l[i]? = some x → S i env → ∃ env1, asg (c x) env = .ok env1 ∧ ∃ e, body env1 = .ok (.nx e) ∧ S (i + 1) e) :
    ∃ e, loopF asg body (l.map c) env = .ok (.nx e) ∧ S l.length e := by
  obtain ⟨e, h1, h2⟩ := loop_ok (asg := asg) (body := body) c S l 0 env (fun i x env hx hi => by
    rw [Nat.zero_add] at hi ⊢
    obtain ⟨e1, h1, e, h2, h3⟩ := st i x env hx hi
    exact ⟨e1, h1, e, .inl h2, h3⟩) h0
  rw [Nat.zero_add] at h2
  exact ⟨e, h1, h2⟩
theorem range_at {m i x : Nat} (h : (List.range m)[i]? = some x) : x = i ∧ i < m := by
  obtain ⟨hi, hx⟩ := List.getElem?_eq_some_iff.mp h
  rw [List.length_range] at hi
  rw [List.getElem_range] at hx
  exact ⟨hx.symm, hi⟩
theorem keys_loop (n : Nat) (ns : List Int) (many cell : Int) (m : Nat) (hm : m ≤ 12) : ∃ s4 s5, loopF (gS1 4) (B1__law_keys (R__law_cell_at (n + 1))) ((List.range m).map fun k : Nat => .int (k : Int)) [.sh (dLI ns), .sh (.int many), .sh (.int cell), .ow (.list []), .un, .un] =
    .ok (.nx [.sh (dLI ns), .sh (.int many), .sh (.int cell), .ow (.list ((List.range m).map fun k => dS (keyB ns cell k))), s4, s5]) := by
  obtain ⟨e, h1, s4, s5, h2⟩ := loop_eq (asg := gS1 4) (body := B1__law_keys (R__law_cell_at (n + 1))) (fun k : Nat => PyData.int (k : Int))
    (fun i env => ∃ s4 s5, env = [.sh (dLI ns), .sh (.int many), .sh (.int cell), .ow (.list ((List.range i).map fun k => dS (keyB ns cell k))), s4, s5]) (List.range m) _ ⟨_, _, rfl⟩ (by
    rintro i x env hx ⟨s4, s5, rfl⟩
    obtain ⟨rfl, hi⟩ := range_at hx
    refine ⟨_, rfl, ?_⟩
    have a1 : 0 ≤ cellAt ns (29 + x) % 5 := Int.emod_nonneg _ (by decide)
    have a2 : 0 ≤ cell % 4 := Int.emod_nonneg _ (by decide)
    have a3 : x < 12 := by omega
    have a4 : (0 : Int) ≤ 29 + x := by omega
    have l1 : tailW.length = 7 := rfl
    have l2 : preW.length = 4 := rfl
    have l3 : letW.length = 12 := rfl
    have l4 : letW[x]? = some (letC x) := by simp [l3, a3, letC]
    have l7 : x ≤ 100000 := by omega
    have l8 : min (cell % 4).toNat 4 ≤ 99999 := by omega
    have l9 : min (cell % 4).toNat 4 + 1 + min (cellAt ns (29 + x) % 5).toNat 7 ≤ 100000 := by omega
    simp [B1__law_keys, r_cell, lit_tail, lit_pre, lit_let, cut_take, a1, a2, a4, atI_nat, l1, l2, l3, l4, l7, l8, l9, List.range_succ, keyB])
  rw [List.length_range] at h2
  exact ⟨s4, s5, by rw [h2] at h1; exact h1⟩
theorem r_keys (n : Nat) (ns : List Int) (many : Int) (h0 : 0 ≤ many) (h12 : many ≤ 12) : R__law_keys (n + 2) [dLI ns, .int many] = .ok (dLS (keysF ns many)) := by
  have h1 : many ≤ 100000 := by omega
  simp [R__law_keys, F__law_keys, r_cell]
  by_cases c : cellAt ns 28 / 4 % 4 = 1
  · by_cases c2 : many ≤ 8
    · simp [c, c2, rng1_eq many (by omega), lit_cab, cab3, h1]
      rw [mapF_all (fun k : Nat => PyData.int k) (fun k => dS (cabs.take (k + 1)))]
      · simp [keysF, c, c2, dLS]
      · intro k hk
        simp only [o_addI, ok_bind', x_asI]
        rw [cut_take _ _ (by omega)]
        rfl
    · obtain ⟨s4, s5, h⟩ := keys_loop n ns many (cellAt ns 28) many.toNat (by omega)
      simp [c, c2, rng1_eq many (by omega), h]
      simp [keysF, c, c2, dLS, keyB]
  · obtain ⟨s4, s5, h⟩ := keys_loop n ns many (cellAt ns 28) many.toNat (by omega)
    simp [c, rng1_eq many (by omega), h]
    simp [keysF, c, dLS, keyB]
theorem keys_len (ns : List Int) (many : Int) : (keysF ns many).length = many.toNat := by
  unfold keysF
  split <;> simp
/-! sorted, valid words -/
def okWord (w : Wd) : Prop := 1 ≤ w.length ∧ w.length ≤ 8 ∧ ∀ c ∈ w, 97 ≤ c ∧ c ≤ 122
instance (w : Wd) : Decidable (okWord w) := by unfold okWord; infer_instance
structure Keys (ks : List Wd) : Prop where
  len : ks.length ≤ 12
  word : ∀ w ∈ ks, okWord w
  srt : ks.Pairwise (· < ·)
theorem lt_app : ∀ (p : Wd) {a b : Wd}, a < b → p ++ a < p ++ b
  | [], _, _, h => h
  | c :: p, a, b, h => by
    rw [List.cons_append, List.cons_append, List.cons_lt_cons_iff]
    exact .inr ⟨rfl, lt_app p h⟩
theorem letC_mono : ∀ i j, i < j → j < 12 → letC i < letC j := by
  have h : ∀ j < 12, ∀ i < j, letC i < letC j := by decide
  exact fun i j h1 h2 => h j h2 i h1
theorem cabs_keys : ∀ m ≤ 8, (∀ w ∈ (List.range m).map fun k => cabs.take (k + 1), okWord w) ∧ ((List.range m).map fun k => cabs.take (k + 1)).Pairwise (· < ·) := by decide +kernel
theorem keys_ok (ns : List Int) (many : Int) (h0 : 0 ≤ many) (h : many ≤ 12) : Keys (keysF ns many) := by
  refine ⟨by rw [keys_len]; omega, ?_, ?_⟩
  · unfold keysF
    split
    · rename_i c
      exact (cabs_keys many.toNat (by omega)).1
    · intro w hw
      obtain ⟨k, hk, rfl⟩ := List.mem_map.mp hw
      rw [List.mem_range] at hk
      have a2 : (cellAt ns 28 % 4).toNat ≤ 3 := by omega
      have a1 : (cellAt ns (29 + k) % 5).toNat ≤ 4 := by omega
      refine ⟨by simp; omega, by simp; omega, fun c hc => ?_⟩
      simp only [List.append_assoc, List.mem_append, List.mem_singleton] at hc
      rcases hc with hc | hc | hc
      · have := List.mem_of_mem_take hc
        revert this; unfold preW; simp; omega
      · subst hc
        have : ∀ k < 12, 97 ≤ letC k ∧ letC k ≤ 122 := by decide
        exact this k (by omega)
      · have := List.mem_of_mem_take hc
        revert this; unfold tailW; simp; omega
  · unfold keysF
    split
    · rename_i c
      exact (cabs_keys many.toNat (by omega)).2
    · rw [List.pairwise_map]
      refine List.Pairwise.imp_of_mem ?_ List.pairwise_lt_range
      intro i j hi hj hij
      rw [List.append_assoc, List.append_assoc]
      refine lt_app _ ?_
      rw [List.singleton_append, List.singleton_append, List.cons_lt_cons_iff]
      rw [List.mem_range] at hj
      exact .inl (letC_mono i j hij (by omega))
end Sk

namespace Sk
open PySem PySem.Spec PyProof.Rows L2
inductive Tr where
  | nil | node (k : Wd) (l r : Tr)
  deriving DecidableEq
def dT : Tr → D
  | .nil => .none
  | .node k l r => .tuple [dS k, dT l, dT r]
def rowT : Tr → List Wd
  | .nil => []
  | .node k l r => rowT l ++ [k] ++ rowT r
def hgt : Tr → Nat
  | .nil => 0
  | .node _ l r => 1 + max (hgt l) (hgt r)
def sizeT : Tr → Nat
  | .nil => 0
  | .node _ l r => sizeT l + 1 + sizeT r
theorem row_len : ∀ t, (rowT t).length = sizeT t
  | .nil => rfl
  | .node k l r => by simp [rowT, sizeT, row_len l, row_len r]; omega
theorem hgt_size : ∀ t, hgt t ≤ sizeT t
  | .nil => Nat.le_refl _
  | .node k l r => by have := hgt_size l; have := hgt_size r; simp [hgt, sizeT]; omega
@[simp] theorem dT_nil : dT .nil = .none := (rfl)
@[simp] theorem dT_node (k : Wd) (l r : Tr) : dT (.node k l r) = .tuple [dS k, dT l, dT r] := (rfl)
@[simp] theorem isN_nil : isNone .none = true := (rfl)
@[simp] theorem isN_tup (l : List D) : isNone (.tuple l) = false := (rfl)
@[simp] theorem at3_0 (a b c : D) : atI [a, b, c] 0 = some a := (rfl)
@[simp] theorem at3_1 (a b c : D) : atI [a, b, c] 1 = some b := (rfl)
@[simp] theorem at3_2 (a b c : D) : atI [a, b, c] 2 = some c := (rfl)
@[simp] theorem at2_0 (a b : D) : atI [a, b] 0 = some a := (rfl)
@[simp] theorem at2_1 (a b : D) : atI [a, b] 1 = some b := (rfl)
theorem dLS_def (l : List Wd) : PyData.list (l.map dS) = dLS l := rfl
theorem atI_map {α β : Type} (f : α → β) (l : List α) (i : Int) : atI (l.map f) i = (atI l i).map f := by
  unfold atI
  rw [List.length_map]
  cases ixN l.length i with
  | none => rfl
  | some j => simp
theorem cutD_map {α β : Type} (f : α → β) (l : List α) (lo hi : Option Int) : cutD (l.map f) lo hi = (cutD l lo hi).map f := by
  unfold cutD
  rw [List.length_map, List.map_take, List.map_drop]
section
variable (l m : List Wd) (i : Int) (a b : List Int)
@[simp] theorem dLS_cat : opCat (dLS l) (dLS m) = if l.length + m.length ≤ 100000 then .ok (dLS (l ++ m)) else .bad := by simp [dLS, opCat]
@[simp] theorem dLS_len : opLen [dLS l] = .ok (.int l.length) := by simp [dLS, opLen]
@[simp] theorem dLS_ix : opIx (dLS l) (.int i) = rsO ((atI l i).map dS) := by simp only [dLS, opIx, atI_map]
@[simp] theorem dLS_sl (lo hi : Option Int) : opSlL (dLS l) lo hi = .ok (dLS (cutD l lo hi)) := by simp only [dLS, opSlL, cutD_map]
@[simp] theorem dLS_lst : lstR (dLS l) = .ok (l.map dS) := (rfl)
@[simp] theorem dLS_rev : opRev (dLS l) = .ok (dLS l.reverse) := by simp [dLS, opRev]
@[simp] theorem dLS_list : opList [dLS l] = .ok (dLS l) := (rfl)
@[simp] theorem dLI_cat : opCat (dLI a) (dLI b) = if a.length + b.length ≤ 100000 then .ok (dLI (a ++ b)) else .bad := by simp [dLI, opCat]
@[simp] theorem dLI_len : opLen [dLI a] = .ok (.int a.length) := by simp [dLI, opLen]
@[simp] theorem dLI_ix : opIx (dLI a) (.int i) = rsO ((atI a i).map .int) := by simp only [dLI, opIx, atI_map]
@[simp] theorem dLI_sl (lo hi : Option Int) : opSlL (dLI a) lo hi = .ok (dLI (cutD a lo hi)) := by simp only [dLI, opSlL, cutD_map]
@[simp] theorem dLI_lst : lstR (dLI a) = .ok (a.map .int) := (rfl)
@[simp] theorem dLI_rev : opRev (dLI a) = .ok (dLI a.reverse) := by simp [dLI, opRev]
@[simp] theorem dLI_list : opList [dLI a] = .ok (dLI a) := (rfl)
end
@[simp] theorem x_owLS {α : Type} (l : List Wd) (k : List D → Rs α) : owL (some (.ow (dLS l))) k = k (l.map dS) := (rfl)
@[simp] theorem x_owLI {α : Type} (l : List Int) (k : List D → Rs α) : owL (some (.ow (dLI l))) k = k (l.map .int) := (rfl)
@[simp] theorem x_lstBS {α : Type} (l : List Wd) (k : List D → Rs α) : lstB (dLS l) k = k (l.map dS) := (rfl)
@[simp] theorem x_lstBI {α : Type} (l : List Int) (k : List D → Rs α) : lstB (dLI l) k = k (l.map .int) := (rfl)
theorem dLS_one (k : Wd) : PyData.list [dS k] = dLS [k] := rfl
theorem dLS_nil : PyData.list [] = dLS [] := rfl
theorem r_row : ∀ (t : Tr) (n : Nat), hgt t < n → sizeT t ≤ 100000 → R_row_of n [dT t] = .ok (dLS (rowT t))
  | .nil, n + 1, _, _ => by simp [R_row_of, F_row_of, rowT, dLS]
  | .node k l r, n + 1, h, hs => by
    have h1 : hgt l < n := by simp [hgt] at h; omega
    have h2 : hgt r < n := by simp [hgt] at h; omega
    simp only [sizeT] at hs
    have e1 : sizeT l ≤ 99999 := by omega
    have e2 : sizeT l + 1 + sizeT r ≤ 100000 := hs
    simp [R_row_of, F_row_of, r_row l n h1 (by omega), r_row r n h2 (by omega), rowT, dLS_one, row_len, e1, e2]
def mirT : Tr → Tr
  | .nil => .nil
  | .node k l r => .node k (mirT r) (mirT l)
theorem r_mir : ∀ (t : Tr) (n : Nat), hgt t < n → R__law_mirrored n [dT t] = .ok (dT (mirT t))
  | .nil, n + 1, _ => by simp [R__law_mirrored, F__law_mirrored, mirT]
  | .node k l r, n + 1, h => by
    have h1 : hgt l < n := by simp [hgt] at h; omega
    have h2 : hgt r < n := by simp [hgt] at h; omega
    simp [R__law_mirrored, F__law_mirrored, r_mir l n h1, r_mir r n h2, mirT]
theorem mir_row : ∀ t, rowT (mirT t) = (rowT t).reverse
  | .nil => rfl
  | .node k l r => by simp [mirT, rowT, mir_row l, mir_row r]
theorem mir_hgt : ∀ t, hgt (mirT t) = hgt t
  | .nil => rfl
  | .node k l r => by simp [mirT, hgt, mir_hgt l, mir_hgt r, Nat.max_comm]
theorem mir_size : ∀ t, sizeT (mirT t) = sizeT t
  | .nil => rfl
  | .node k l r => by simp [mirT, sizeT, mir_size l, mir_size r]; omega
/-! equality of data -/
def okS (w : Wd) : Prop := ∀ c ∈ w, c < 1114112
theorem okWord.ok {w : Wd} (h : okWord w) : okS w := fun c hc => by have := (h.2.2 c hc).2; omega
mutual
theorem eqv_self : ∀ d : D, d.canLay0 = true → PyData.eqv d d = true
  | .none, _ => rfl
  | .bool b, _ => by simp [PyData.eqv]
  | .int b, _ => by simp [PyData.eqv]
  | .str b, _ => by simp [PyData.eqv]
  | .list l, h => by simp only [PyData.eqv]; exact eqvAll_self l (by simpa [PyData.canLay0] using h)
  | .tuple l, h => by simp only [PyData.eqv]; exact eqvAll_self l (by simpa [PyData.canLay0] using h)
  | .dict _, h => by simp [PyData.canLay0] at h
theorem eqvAll_self : ∀ l : List D, PyData.canLayAll0 l = true → PyData.eqvAll l l = true
  | [], _ => rfl
  | x :: l, h => by
    simp only [PyData.canLayAll0, Bool.and_eq_true] at h
    simp only [PyData.eqvAll, Bool.and_eq_true]
    exact ⟨eqv_self x h.1, eqvAll_self l h.2⟩
end
def Sh (d : D) : Prop := SeqAt.shaped d = true
theorem Sh.can {d : D} (h : Sh d) : d.canLay0 = true := SeqAt.canLay_of_shaped h
theorem sh_iff (d : D) : Sh d ↔ d.canLay0 = true ∧ d.depth ≤ 64 := by unfold Sh SeqAt.shaped; simp
theorem opEq_sh {a b : D} (h : Sh a) (h2 : Sh b) : opEq a b = .ok (.bool (PyData.eqv a b)) := by
  unfold Sh at h h2
  cases a <;> cases b <;> first | (simp only [opEq, h, h2, and_self, if_true]; done) | skip
  case int.int i j => simp [opEq, PyData.eqv]; rfl
  case str.str i j => simp only [opEq, PyData.eqv]; rw [Bool.beq_eq_decide_eq]
theorem opNe_sh {a b : D} (h : Sh a) (h2 : Sh b) : opNe a b = .ok (.bool (!PyData.eqv a b)) := by
  unfold Sh at h h2
  cases a <;> cases b <;> first | (simp only [opNe, h, h2, and_self, if_true]; done) | skip
  case int.int i j => simp [opNe, PyData.eqv]; rfl
  case str.str i j => simp only [opNe, PyData.eqv]; rw [Bool.beq_eq_decide_eq]
theorem eq_self {d : D} (h : Sh d) : opEq d d = .ok (.bool true) := by rw [opEq_sh h h, eqv_self d h.can]
theorem ne_self {d : D} (h : Sh d) : opNe d d = .ok (.bool false) := by rw [opNe_sh h h, eqv_self d h.can]; rfl
theorem can_S {w : Wd} (h : okS w) : (dS w).canLay0 = true := by
  simp only [dS, PyData.canLay0, PyData.strOk, List.all_toArray, List.all_eq_true, decide_eq_true_eq]
  exact h
theorem canAll {α : Type} {f : α → D} : ∀ {l : List α}, (∀ x ∈ l, (f x).canLay0 = true) → PyData.canLayAll0 (l.map f) = true
  | [], _ => rfl
  | x :: l, h => by
    simp only [List.map_cons, PyData.canLayAll0, Bool.and_eq_true]
    exact ⟨h x List.mem_cons_self, canAll fun y hy => h y (List.mem_cons_of_mem _ hy)⟩
theorem depAll {α : Type} {f : α → D} {n : Nat} : ∀ {l : List α}, (∀ x ∈ l, (f x).depth ≤ n) → PyData.depthAll (l.map f) ≤ n
  | [], _ => Nat.zero_le _
  | x :: l, h => by
    simp only [List.map_cons, PyData.depthAll]
    exact Nat.max_le.mpr ⟨h x List.mem_cons_self, depAll fun y hy => h y (List.mem_cons_of_mem _ hy)⟩
theorem sh_S {w : Wd} (h : okS w) : Sh (dS w) := (sh_iff _).mpr ⟨can_S h, by simp [dS, PyData.depth]⟩
theorem sh_I (i : Int) : Sh (.int i) := (sh_iff _).mpr ⟨rfl, by simp [PyData.depth]⟩
theorem sh_LS {l : List Wd} (h : ∀ w ∈ l, okS w) : Sh (dLS l) := (sh_iff _).mpr ⟨by simp only [dLS, PyData.canLay0]; exact canAll fun x hx => can_S (h x hx), by
  simp only [dLS, PyData.depth]
  have := depAll (f := dS) (n := 0) (l := l) fun x _ => by simp [dS, PyData.depth]
  omega⟩
theorem sh_LI (l : List Int) : Sh (dLI l) := (sh_iff _).mpr ⟨by simp only [dLI, PyData.canLay0]; exact canAll fun x hx => rfl, by
  simp only [dLI, PyData.depth]
  have := depAll (f := PyData.int) (n := 0) (l := l) fun x _ => by simp [PyData.depth]
  omega⟩
def okT (t : Tr) : Prop := ∀ w ∈ rowT t, okS w
theorem can_T : ∀ t, okT t → (dT t).canLay0 = true
  | .nil, _ => rfl
  | .node k l r, h => by
    have h1 : okT l := fun w hw => h w (by simp [rowT, hw])
    have h2 : okT r := fun w hw => h w (by simp [rowT, hw])
    simp [PyData.canLay0, PyData.canLayAll0, can_T l h1, can_T r h2, can_S (h k (by simp [rowT]))]
theorem dep_T : ∀ t, (dT t).depth ≤ hgt t
  | .nil => Nat.le_refl _
  | .node k l r => by
    have h1 := dep_T l
    have h2 := dep_T r
    simp [PyData.depth, PyData.depthAll, hgt, dS]
    omega
theorem sh_T {t : Tr} (h : okT t) (h2 : hgt t ≤ 64) : Sh (dT t) := (sh_iff _).mpr ⟨can_T t h, by have := dep_T t; omega⟩
/-- a drawn tree -/
theorem r_tree : ∀ (m : Nat) (n : Nat) (ks : List Wd) (cell : Int) (first : Nat), m + 1 < n → first + m ≤ ks.length →
    ∃ t, R__law_tree n [dLS ks, .int cell, .int first, .int (first + m)] = .ok (dT t) ∧ rowT t = (ks.drop first).take m := by
  intro m
  induction m using Nat.strongRecOn with
  | ind m ih =>
    intro n ks cell first hn hl
    obtain ⟨n, rfl⟩ : ∃ k, n = k + 1 := ⟨n - 1, by omega⟩
    by_cases c : m = 0
    · subst c
      exact ⟨.nil, by simp [R__law_tree, F__law_tree], by simp [rowT]⟩
    · have hmix : ∀ c j, R__law_mix n [.int c, .int j] = .ok (.int (mixF c j)) := fun c j => by
        obtain ⟨n, rfl⟩ : ∃ k, n = k + 1 := ⟨n - 1, by omega⟩
        exact r_mix n c j
      have key : ∀ p : Nat, first ≤ p → p < first + m → ∃ k l r, atI ks (p : Int) = some k ∧ R__law_tree n [dLS ks, .int cell, .int first, .int p] = .ok (dT l) ∧ R__law_tree n [dLS ks, .int cell, .int (p + 1), .int (first + m)] = .ok (dT r) ∧
          rowT (.node k l r) = (ks.drop first).take m := by
        intro p h1 h2
        obtain ⟨l, el, rl⟩ := ih (p - first) (by omega) n ks cell first (by omega) (by omega)
        obtain ⟨r, er, rr⟩ := ih (first + m - (p + 1)) (by omega) n ks cell (p + 1) (by omega) (by omega)
        have e1 : ((first : Int) + ((p - first : Nat) : Int)) = p := by omega
        have e2 : (((p + 1 : Nat) : Int) + ((first + m - (p + 1) : Nat) : Int)) = first + m := by omega
        have e3 : ((p + 1 : Nat) : Int) = (p : Int) + 1 := by omega
        rw [e1] at el
        rw [e2, e3] at er
        have hp : p < ks.length := by omega
        refine ⟨ks[p], l, r, by rw [atI_nat (by omega)]; simp [hp], el, er, ?_⟩
        simp only [rowT, rl, rr]
        have : (ks.drop first).take m = (ks.drop first).take (p - first) ++ ([ks[p]] ++ (ks.drop (p + 1)).take (first + m - (p + 1))) := by
          have e4 : m = (p - first) + (1 + (first + m - (p + 1))) := by omega
          conv => lhs; rw [e4]
          rw [List.take_add, List.drop_drop, show first + (p - first) = p by omega, List.take_add, List.drop_drop]
          congr 2
          rw [List.take_one, List.head?_drop, List.getElem?_eq_getElem hp]; rfl
        rw [this, List.append_assoc]
      have c2 : (0 : Int) < m := by omega
      have c3 : ¬ ((first : Int) = first + m) := by omega
      have z1 := Int.emod_nonneg (mixF cell (13 * (first : Int) + (first + m)) / 7) (b := m) (by omega)
      have z2 := Int.emod_lt_of_pos (mixF cell (13 * (first : Int) + (first + m)) / 7) c2
      have k13 : cmul 13 (first : Int) = true := cmul_l (by decide) (by decide)
      have c4 : (first : Int) < first + m := by omega
      have e5 : (first : Int) + m - first = m := by omega
      have c5 : 0 < m := by omega
      by_cases d1 : cell % 5 = 1
      · obtain ⟨k, l, r, h1, h2, h3, h4⟩ := key first (Nat.le_refl _) (by omega)
        refine ⟨.node k l r, ?_, h4⟩
        simp [R__law_tree, F__law_tree, hmix, c, c2, c3, c4, e5, c5, k13, d1, h1, h2, h3]
      · by_cases d2 : cell % 5 = 2
        · obtain ⟨k, l, r, h1, h2, h3, h4⟩ := key (first + m - 1) (by omega) (by omega)
          have e6 : ((first + m - 1 : Nat) : Int) = (first : Int) + m - 1 := by omega
          rw [e6] at h1 h2 h3
          have h3' : R__law_tree n [dLS ks, .int cell, .int (first + m), .int (first + m)] = .ok (dT r) := by simpa using h3
          refine ⟨.node k l r, ?_, h4⟩
          simp [R__law_tree, F__law_tree, hmix, c, c2, c3, c4, e5, c5, k13, d1, d2, h1, h2, h3']
        · obtain ⟨p, hp⟩ : ∃ p : Nat, (first : Int) + mixF cell (13 * (first : Int) + (first + m)) / 7 % m = p := ⟨((first : Int) + mixF cell (13 * (first : Int) + (first + m)) / 7 % m).toNat, by omega⟩
          obtain ⟨k, l, r, h1, h2, h3, h4⟩ := key p (by omega) (by omega)
          refine ⟨.node k l r, ?_, h4⟩
          simp [R__law_tree, F__law_tree, hmix, c, c2, c3, c4, e5, c5, k13, d1, d2, hp, h1, h2, h3]
/-! how a law begins -/
theorem start12 (ns : List Int) : ∃ (m : Nat) (ks : List Wd), manyF (cellAt ns 0) 12 = m ∧ m ≤ 12 ∧ keysF ns m = ks ∧ Keys ks ∧ ks.length = m := by
  have hm := many_rng (cellAt ns 0) 12 (by decide)
  obtain ⟨m, hm0⟩ : ∃ m : Nat, manyF (cellAt ns 0) 12 = m := ⟨(manyF (cellAt ns 0) 12).toNat, by omega⟩
  rw [hm0] at hm
  exact ⟨m, keysF ns m, hm0, by omega, rfl, keys_ok ns m (by omega) (by omega), by rw [keys_len]; omega⟩
theorem tree0 (n : Nat) {ks : List Wd} (m : Nat) (hl : ks.length = m) (hn : m + 1 < n) (cell : Int) : ∃ t, R__law_tree n [dLS ks, .int cell, .int 0, .int m] = .ok (dT t) ∧ rowT t = ks ∧ sizeT t = m ∧ hgt t ≤ m := by
  obtain ⟨t, ht, hr⟩ := r_tree m n ks cell 0 hn (by omega)
  have hr' : rowT t = ks := by rw [hr, List.drop_zero, List.take_of_length_le (by omega)]
  have hz : sizeT t = m := by rw [← row_len, hr', hl]
  exact ⟨t, by simpa using ht, hr', hz, by have := hgt_size t; omega⟩
theorem Keys.oks {ks : List Wd} (h : Keys ks) : ∀ w ∈ ks, okS w := fun w hw => (h.word w hw).ok
theorem Keys.shL {ks : List Wd} (h : Keys ks) : Sh (dLS ks) := sh_LS h.oks
theorem rng1_2 : rng1 (.int 2) = .ok [.int 0, .int 1] := rfl
@[simp] theorem loopF_nil (asg : D → SEnv → Rs SEnv) (body : SEnv → Rs Fl) (env : SEnv) : loopF asg body [] env = .ok (.nx env) := (rfl)
theorem loopF_cons (asg : D → SEnv → Rs SEnv) (body : SEnv → Rs Fl) (d : D) (ds : List D) (env : SEnv) : loopF asg body (d :: ds) env = (asg d env).bind fun env1 => (body env1).bind fun r => match r with
    | .nx e => loopF asg body ds e
    | .ct e => loopF asg body ds e
    | .bk e => .ok (.nx e)
    | .rt d => .ok (.rt d) := rfl
@[simp] theorem isi_list (l : List D) : opIsi "list" (.list l) = .ok (.bool true) := (rfl)
@[simp] theorem isi_listS (l : List Wd) : opIsi "list" (dLS l) = .ok (.bool true) := (rfl)
@[simp] theorem isi_listI (l : List Int) : opIsi "list" (dLI l) = .ok (.bool true) := (rfl)
@[simp] theorem isi_str (l : Wd) : opIsi "str" (dS l) = .ok (.bool true) := (rfl)
@[simp] theorem isi_int (l : Int) : opIsi "int" (.int l) = .ok (.bool true) := (rfl)
@[simp] theorem isi_boolI (l : Int) : opIsi "bool" (.int l) = .ok (.bool false) := (rfl)
@[simp] theorem isi_tup (l : List D) : opIsi "tuple" (.tuple l) = .ok (.bool true) := (rfl)
theorem all_true {α : Type} (l : List α) : opAll [.list (l.map fun _ => .bool true)] = .ok (.bool true) := by
  have : (l.map fun _ => PyData.bool true) = (l.map fun _ => true).map PyData.bool := by rw [List.map_map]; rfl
  rw [this]
  have e : PyData.list ((l.map fun _ => true).map PyData.bool) = dLB (l.map fun _ => true) := rfl
  rw [e, o_all]
  simp
/-- all([isinstance(word, str) for word in found]) -/
theorem lc_strs (l : List Wd) : mapF (fun _ => .ok true) (fun d => opIsi "str" d) (l.map dS) = .ok (l.map fun _ => .bool true) := mapF_all dS (fun _ => .bool true) l fun x _ => rfl
end Sk

namespace Sk
open PySem PySem.Spec PyProof.Rows L2
def lettersW : Wd := (List.range 26).map (· + 97)
theorem lit_letters : (PyData.str "abcdefghijklmnopqrstuvwxyz") = dS lettersW := by unfold dS; congr 1
theorem mem_letters (c : Nat) : c ∈ lettersW ↔ 97 ≤ c ∧ c ≤ 122 := by
  unfold lettersW
  simp only [List.mem_map, List.mem_range]
  constructor
  · rintro ⟨a, h, rfl⟩; omega
  · intro h; exact ⟨c - 97, by omega, by omega⟩
@[simp] theorem in_sign (c : Nat) (z : Wd) : opIn (dS [c]) (dS z) = .ok (.bool (decide (c ∈ z))) := (rfl)
theorem strsOf_dS : ∀ l : List Wd, strsOf (l.map dS) = some (l.map fun w => ⟨w.toArray⟩)
  | [] => rfl
  | w :: l => by rw [List.map_cons]; unfold dS strsOf; rw [show List.map (fun l => PyData.str { cps := l.toArray }) l = l.map dS from rfl, strsOf_dS l]; rfl
theorem inB_dS (w : Wd) (l : List Wd) : inB (dS w) (l.map dS) = some (decide (w ∈ l)) := by
  show (strsOf (l.map dS)).map _ = _
  rw [strsOf_dS]
  simp only [Option.map_some]
  congr 1
  apply decide_eq_decide.mpr
  simp only [List.mem_map]
  constructor
  · rintro ⟨a, h, e⟩; rw [(strEq _ _).mp e] at h; exact h
  · intro h; exact ⟨w, h, rfl⟩
@[simp] theorem in_dLS (w : Wd) (l : List Wd) : opIn (dS w) (dLS l) = .ok (.bool (decide (w ∈ l))) := by
  show rsB (inB (dS w) (l.map dS)) = _
  rw [inB_dS]; rfl
@[simp] theorem ni_dLS (w : Wd) (l : List Wd) : opNi (dS w) (dLS l) = .ok (.bool (!decide (w ∈ l))) := by
  show rsB ((inB (dS w) (l.map dS)).map (!·)) = _
  rw [inB_dS]; rfl
theorem all_dLB (l : List Bool) : opAll [.list (l.map .bool)] = .ok (.bool (l.all id)) := o_all l
/-! is_word -/
def isL (c : Nat) : Bool := decide (97 ≤ c ∧ c ≤ 122)
def wordB (w : Wd) : Bool := decide (1 ≤ w.length) && decide (w.length ≤ 8) && w.all isL
theorem wordB_iff (w : Wd) : wordB w = true ↔ okWord w := by
  unfold wordB okWord isL
  simp [and_assoc]
theorem r_is_word (n : Nat) (w : Wd) (h : w.length ≤ 100000) : R_is_word (n + 1) [dS w] = .ok (.bool (wordB w)) := by
  have e : mapF (fun _ => .ok true) (fun d => opIn d (dS lettersW)) (w.map fun c => dS [c]) = .ok (w.map fun c => .bool (isL c)) := by
    refine mapF_all (fun c => dS [c]) _ w fun c _ => ?_
    rw [in_sign, decide_eq_decide.mpr (mem_letters c)]; rfl
  have e2 : opAll [.list (w.map fun c => .bool (isL c))] = .ok (.bool (w.all isL)) := by
    have := all_dLB (w.map isL)
    rw [List.map_map, List.all_map] at this
    exact this
  by_cases c1 : 1 ≤ w.length
  · by_cases c2 : w.length ≤ 8
    · have c1' : (1 : Int) ≤ w.length := by omega
      have c2' : (w.length : Int) ≤ 8 := by omega
      have c3 : ¬ (8 : Int) < w.length := by omega
      have c4 : ¬ w = [] := fun z => by subst z; simp at c1
      simp [R_is_word, F_is_word, h, c1', c2', lit_letters, e, e2, wordB, c1, c2, c4]
    · have c1' : (1 : Int) ≤ w.length := by omega
      have c2' : ¬ (w.length : Int) ≤ 8 := by omega
      simp [R_is_word, F_is_word, h, c1', c2', lit_letters, e, e2, wordB, c1, c2]
  · have c1' : ¬ (1 : Int) ≤ w.length := by omega
    simp [R_is_word, F_is_word, h, c1', lit_letters, e, e2, wordB, c1]
/-! are_keys -/
def keysB (ks : List Wd) : Bool := decide (ks.length ≤ 12) && ks.all wordB && (List.range (ks.length - 1)).all fun k => decide (ks.getD k [] < ks.getD (k + 1) [])
theorem lt_trans' {a b c : Wd} (h : a < b) (h2 : b < c) : a < c := List.lt_trans h h2
theorem pair_adj : ∀ l : List Wd, (∀ k, k + 1 < l.length → l.getD k [] < l.getD (k + 1) []) → l.Pairwise (· < ·)
  | [], _ => List.Pairwise.nil
  | [a], _ => by simp
  | a :: b :: l, h => by
    have ih := pair_adj (b :: l) fun k hk => by
      have := h (k + 1) (by simp only [List.length_cons] at hk ⊢; omega)
      simpa using this
    rw [List.pairwise_cons]
    refine ⟨fun x hx => ?_, ih⟩
    have h0 : a < b := by simpa using h 0 (by simp)
    rcases List.mem_cons.mp hx with rfl | hx
    · exact h0
    · exact lt_trans' h0 ((List.pairwise_cons.mp ih).1 x hx)
theorem pair_get {l : List Wd} (h : l.Pairwise (· < ·)) {i j : Nat} (hij : i < j) (hj : j < l.length) : l.getD i [] < l.getD j [] := by
  rw [List.getD_eq_getElem?_getD, List.getD_eq_getElem?_getD, List.getElem?_eq_getElem hj, List.getElem?_eq_getElem (by omega)]
  exact List.pairwise_iff_getElem.mp h i j _ hj hij
theorem keysB_iff (ks : List Wd) : keysB ks = true ↔ Keys ks := by
  unfold keysB
  simp only [Bool.and_eq_true, decide_eq_true_eq, List.all_eq_true, List.mem_range]
  constructor
  · rintro ⟨⟨h1, h2⟩, h3⟩
    exact ⟨h1, fun w hw => (wordB_iff w).mp (h2 w hw), pair_adj ks fun k hk => h3 k (by omega)⟩
  · rintro ⟨h1, h2, h3⟩
    exact ⟨⟨h1, fun w hw => (wordB_iff w).mpr (h2 w hw)⟩, fun k hk => pair_get h3 (Nat.lt_succ_self k) (by omega)⟩
theorem r_are_keys (n : Nat) (ks : List Wd) (h : ks.length ≤ 100000) (hw : ∀ w ∈ ks, w.length ≤ 100000) : R_are_keys (n + 2) [dLS ks] = .ok (.bool (keysB ks)) := by
  have e : mapF (fun _ => .ok true) (fun d => R_is_word (n + 1) [d]) (ks.map dS) = .ok (ks.map fun w => .bool (wordB w)) := mapF_all dS _ ks fun w h => r_is_word n w (hw w h)
  have e2 : opAll [.list (ks.map fun w => .bool (wordB w))] = .ok (.bool (ks.all wordB)) := by
    have := all_dLB (ks.map wordB)
    rw [List.map_map, List.all_map] at this
    exact this
  have e3 : rng2 (.int 1) (.int ks.length) = .ok ((List.range (ks.length - 1)).map fun k : Nat => .int (1 + (k : Int))) := by
    rw [rng2_eq _ _ (by omega)]
    congr 3
    omega
  by_cases c : ks.length ≤ 12
  · have c' : ¬ (12 : Int) < ks.length := by omega
    by_cases d : ks.all wordB = true
    · have f : ∀ k ∈ List.range (ks.length - 1), (fun d => ((opSub d (PyData.int 1)).bind fun b => opIx (dLS ks) b).bind fun a => (opIx (dLS ks) d).bind fun b => opLt a b) (PyData.int (1 + (k : Int))) = .ok (.bool (decide (ks.getD k [] < ks.getD (k + 1) []))) := by
        intro k hk
        rw [List.mem_range] at hk
        have a1 : k < ks.length := by omega
        have a2 : k + 1 < ks.length := by omega
        have z1 : (1 : Int) + k - 1 = k := by omega
        have z2 : ((1 : Int) + k).toNat = k + 1 := by omega
        simp only [o_sub, ok_bind', z1, dLS_ix]
        rw [atI_nat (by omega), atI_nat (by omega), z2, Int.toNat_natCast, List.getElem?_eq_getElem a1, List.getElem?_eq_getElem a2]
        simp [a1, a2]
      have h1 : ks.length ≤ 100001 := by omega
      simp [R_are_keys, F_are_keys, h, c', e, e2, d, e3, h1]
      rw [mapF_all (fun k : Nat => PyData.int (1 + (k : Int))) _ _ f]
      have g := all_dLB ((List.range (ks.length - 1)).map fun k => decide (ks.getD k [] < ks.getD (k + 1) []))
      rw [List.map_map, List.all_map] at g
      simp only [Function.comp_def] at g
      simp only [ok_bind', g]
      simp [keysB, d, c]
    · simp [R_are_keys, F_are_keys, h, c', e, e2, d]
      simp [keysB, d]
  · have c' : (12 : Int) < ks.length := by omega
    simp [R_are_keys, F_are_keys, h, c']
    simp [keysB, c]
/-! the three that ask -/
theorem r_ask_keys (n : Nat) (ks : List Wd) (h : ks.length ≤ 100000) (hw : ∀ w ∈ ks, w.length ≤ 100000) : R_ask_keys (n + 3) [dLS ks] = if keysB ks = true then .ok .none else .exc "NoKeys" := by
  have e := r_are_keys n ks h hw
  cases c : keysB ks <;> simp [R_ask_keys, F_ask_keys, e, c]
theorem ask_keys_ok (n : Nat) {ks : List Wd} (h : Keys ks) : R_ask_keys (n + 3) [dLS ks] = .ok .none := by
  rw [r_ask_keys n ks (by have := h.len; omega) (fun w hw => by have := (h.word w hw).2.1; omega), if_pos ((keysB_iff ks).mpr h)]
theorem eqvAll_dS : ∀ a b : List Wd, PyData.eqvAll (a.map dS) (b.map dS) = decide (a = b)
  | [], [] => rfl
  | [], _ :: _ => by simp [PyData.eqvAll]
  | _ :: _, [] => by simp [PyData.eqvAll]
  | x :: a, y :: b => by
    have e : PyData.eqv (dS x) (dS y) = decide (x = y) := by
      unfold dS
      simp only [PyData.eqv]
      rw [Bool.beq_eq_decide_eq, decide_eq_decide.mpr (strEq x y)]
    simp [PyData.eqvAll, eqvAll_dS a b, e]
theorem eqv_dLS (a b : List Wd) : PyData.eqv (dLS a) (dLS b) = decide (a = b) := by
  simp only [dLS, PyData.eqv]
  exact eqvAll_dS a b
theorem r_ask_tree (n : Nat) (ks : List Wd) (t : Tr) (hn : hgt t + 2 ≤ n) (hs : sizeT t ≤ 100000) (h : ∀ w ∈ ks, okS w) (h2 : okT t) : R_ask_tree n [dLS ks, dT t] = if rowT t = ks then .ok .none else .exc "NoTree" := by
  obtain ⟨n, rfl⟩ : ∃ k, n = k + 1 := ⟨n - 1, by omega⟩
  have e := r_row t n (by omega) hs
  have s := opNe_sh (sh_LS h2) (sh_LS h)
  rw [eqv_dLS] at s
  by_cases c : rowT t = ks
  · rw [c] at e s
    simp [R_ask_tree, F_ask_tree, e, s, c]
  · simp [R_ask_tree, F_ask_tree, e, s, c]
theorem ask_tree_ok (n : Nat) {ks : List Wd} {t : Tr} (h : Keys ks) (hr : rowT t = ks) (hn : hgt t + 2 ≤ n) : R_ask_tree n [dLS ks, dT t] = .ok .none := by
  rw [r_ask_tree n ks t hn (by rw [← row_len, hr]; have := h.len; omega) h.oks (fun w hw => h.oks w (by rw [← hr]; exact hw)), if_pos hr]
/-! seeking -/
def soughtF : Tr → Wd → Nat × Bool
  | .nil, _ => (0, false)
  | .node k l r, w => if k = w then (1, true) else if w < k then ((soughtF l w).1 + 1, (soughtF l w).2) else ((soughtF r w).1 + 1, (soughtF r w).2)
theorem sought_loop (w : Wd) : ∀ (t : Tr) (f : Nat) (c : Int), hgt t < f → whileN (bE (e2 opIsN (eV 0) (eC .none))) B1_sought f [.sh (dT t), .sh (dS w), .sh (.int c)] =
    if (soughtF t w).2 = true then .ok (.rt (.tuple [.int (c + (soughtF t w).1), .bool true])) else .ok (.nx [.sh .none, .sh (dS w), .sh (.int (c + (soughtF t w).1))])
  | .nil, f + 1, c, _ => by simp [whileN, soughtF]
  | .node k l r, f + 1, c, h => by
    have h1 : hgt l < f := by simp [hgt] at h; omega
    have h2 : hgt r < f := by simp [hgt] at h; omega
    have i1 := sought_loop w l f (c + 1) h1
    have i2 := sought_loop w r f (c + 1) h2
    have e1 : c + 1 + ((soughtF l w).1 : Int) = c + (((soughtF l w).1 : Int) + 1) := by omega
    have e2 : c + 1 + ((soughtF r w).1 : Int) = c + (((soughtF r w).1 : Int) + 1) := by omega
    by_cases d : k = w
    · simp [whileN, soughtF, x_B1_sought, d]
    · by_cases d2 : w < k
      · simp [whileN, soughtF, x_B1_sought, d, d2, i1, e1]
      · simp [whileN, soughtF, x_B1_sought, d, d2, i2, e2]
theorem r_sought (n : Nat) (t : Tr) (w : Wd) (h : hgt t < 1000) : R_sought (n + 1) [dT t, dS w] = .ok (.tuple [.int (soughtF t w).1, .bool (soughtF t w).2]) := by
  have e := sought_loop w t 1000 0 h
  cases c : (soughtF t w).2 <;> simp [R_sought, F_sought, e, c]
/-- the two answers of seek -/
def lessN (ks : List Wd) (w : Wd) : Nat := (ks.filter fun k => decide (k < w)).length
def seekD (ks : List Wd) (t : Tr) (w : Wd) : D := if (soughtF t w).2 = true then .tuple [dS [107, 101, 121], .int (soughtF t w).1] else .tuple [dS [103, 97, 112], .int (lessN ks w), .int (soughtF t w).1]
theorem lit_key : (PyData.str "key") = dS [107, 101, 121] := by unfold dS; congr 1
theorem lit_gap : (PyData.str "gap") = dS [103, 97, 112] := by unfold dS; congr 1
theorem less_lc (ks : List Wd) (w : Wd) : mapF (fun d => (opLt d (dS w)).bind asB) (fun d => .ok d) (ks.map dS) = .ok ((ks.filter fun k => decide (k < w)).map dS) := mapF_list dS (fun k => decide (k < w)) dS ks fun x _ => ⟨rfl, fun _ => rfl⟩
theorem less_lc' (ks : List Wd) (w : Wd) {f : D → Rs D} (hf : ∀ d, f d = .ok d) : mapF (fun d => (opLt d (dS w)).bind asB) f (ks.map dS) = .ok ((ks.filter fun k => decide (k < w)).map dS) := by
  have : f = fun d => .ok d := funext hf
  rw [this]
  exact less_lc ks w
theorem r_seek (n : Nat) {ks : List Wd} {t : Tr} (w : Wd) (hk : Keys ks) (hr : rowT t = ks) (hh : hgt t ≤ 12) (hn : 15 ≤ n) : R_seek n [dLS ks, dT t, dS w] = .ok (seekD ks t w) := by
  obtain ⟨n, rfl⟩ : ∃ k, n = k + 14 := ⟨n - 14, by omega⟩
  have e1 := ask_keys_ok (n + 10) hk
  have e2 := ask_tree_ok (n + 13) hk hr (by omega)
  have e3 := r_sought (n + 12) t w (by omega)
  have l1 : ks.length ≤ 100000 := by have := hk.len; omega
  have l2 : (ks.filter fun k => decide (k < w)).length ≤ 100000 := Nat.le_trans (List.length_filter_le _ _) l1
  have e4 := less_lc ks w
  cases c : (soughtF t w).2
  · simp [R_seek, F_seek, e1, e2, e3, c, seekD, lit_key, lit_gap, l1, lessN]
    simp [less_lc']
  · simp [R_seek, F_seek, e1, e2, e3, c, seekD, lit_key, lit_gap, l1, lessN]
/-- in a tree with a sorted row it is found where it stands in the row -/
theorem sought_mem (w : Wd) : ∀ t : Tr, (rowT t).Pairwise (· < ·) → ((soughtF t w).2 = true ↔ w ∈ rowT t)
  | .nil, _ => by simp [soughtF, rowT]
  | .node k l r, h => by
    simp only [rowT, List.append_assoc, List.singleton_append, List.pairwise_append, List.pairwise_cons, List.mem_cons] at h
    obtain ⟨h1, ⟨h2, h3⟩, h4⟩ := h
    have il := sought_mem w l h1
    have ir := sought_mem w r h3
    simp only [rowT, List.append_assoc, List.singleton_append, List.mem_append, List.mem_cons]
    unfold soughtF
    by_cases d : k = w
    · simp [d]
    · rw [if_neg d]
      by_cases d2 : w < k
      · rw [if_pos d2]
        simp only [il]
        constructor
        · exact fun h => .inl h
        · rintro (h | h | h)
          · exact h
          · exact absurd h.symm d
          · exact absurd (lt_trans' d2 (h2 w h)) (List.lt_irrefl _)
      · rw [if_neg d2]
        simp only [ir]
        constructor
        · exact fun h => .inr (.inr h)
        · rintro (h | h | h)
          · exact absurd (h4 w h k (.inl rfl)) d2
          · exact absurd h.symm d
          · exact h
theorem r_whole (n : Nat) (i : Int) : R__law_whole (n + 1) [.int i] = .ok (.bool true) := by simp [R__law_whole, F__law_whole]
end Sk

namespace Sk
open PySem PySem.Spec PyProof.Rows L2
/-! index -/
theorem findI_app {α : Type} (p : α → Bool) : ∀ (a : List α) (k : α) (b : List α), (∀ x ∈ a, p x = false) → p k = true → findI p (a ++ k :: b) = some a.length
  | [], k, b, _, h => by simp [findI, h]
  | x :: a, k, b, h0, h => by
    have h1 := h0 x List.mem_cons_self
    rw [List.cons_append]
    unfold findI
    rw [h1, findI_app p a k b (fun y hy => h0 y (List.mem_cons_of_mem _ hy)) h]
    rfl
theorem index_dS (a : List Wd) (k : Wd) (b : List Wd) (h : k ∉ a) : opIndex ((a ++ k :: b).map dS) [dS k] = .ok (.int a.length) := by
  have e : ixB (dS k) ((a ++ k :: b).map dS) = some a.length := by
    show (strsOf ((a ++ k :: b).map dS)).bind _ = _
    rw [strsOf_dS]
    show findI _ ((a ++ k :: b).map fun w => (⟨w.toArray⟩ : Str)) = _
    rw [List.map_append, List.map_cons]
    have := findI_app (fun y : Str => decide (y = ⟨k.toArray⟩)) (a.map fun w => (⟨w.toArray⟩ : Str)) ⟨k.toArray⟩ (b.map fun w => (⟨w.toArray⟩ : Str)) (fun x hx => by
      obtain ⟨w, hw, rfl⟩ := List.mem_map.mp hx
      refine decide_eq_false fun z => h ?_
      rw [← (strEq w k).mp z]; exact hw) (decide_eq_true rfl)
    rw [List.length_map] at this
    exact this
  show rsN _ = _
  rw [e]; rfl
theorem nodup_of_srt {l : List Wd} (h : l.Pairwise (· < ·)) : l.Nodup := h.imp fun {a b} hab e => by subst e; exact List.lt_irrefl _ hab
/-- a node's row: what stands where -/
theorem node_row {k : Wd} {l r : Tr} (h : (rowT (.node k l r)).Nodup) : k ∉ rowT l ∧ (rowT l).Nodup ∧ (rowT r).Nodup := by
  simp only [rowT, List.append_assoc, List.singleton_append, List.nodup_append, List.nodup_cons] at h
  obtain ⟨h1, ⟨_, h2⟩, h3⟩ := h
  exact ⟨fun z => h3 k z k List.mem_cons_self rfl, h1, h2⟩
theorem row_split (k : Wd) (l r : Tr) : rowT (.node k l r) = rowT l ++ k :: rowT r := by simp [rowT]
theorem row_take (k : Wd) (l r : Tr) : (rowT (.node k l r)).take (rowT l).length = rowT l := by rw [row_split, List.take_left']; rfl
theorem row_drop (k : Wd) (l r : Tr) : (rowT (.node k l r)).drop ((rowT l).length + 1) = rowT r := by
  rw [row_split, show rowT l ++ k :: rowT r = (rowT l ++ [k]) ++ rowT r by simp, List.drop_left' (by simp)]
@[simp] theorem isi_tupN : opIsi "tuple" .none = .ok (.bool false) := (rfl)
theorem isn_T (k : Wd) (l r : Tr) : isNone (dT (.node k l r)) = false := rfl
theorem r_is_tree : ∀ (t : Tr) (n : Nat), hgt t < n → (rowT t).Nodup → (∀ w ∈ rowT t, okS w) → R__law_is_tree n [dT t, dLS (rowT t)] = .ok (.bool true)
  | .nil, n + 1, _, _, _ => by
    have e : opEq (dLS []) (.list []) = .ok (.bool true) := eq_self (sh_LS (by simp))
    simp [R__law_is_tree, F__law_is_tree, rowT, e]
  | .node k l r, n + 1, h, hn, ho => by
    have h1 : hgt l < n := by simp [hgt] at h; omega
    have h2 : hgt r < n := by simp [hgt] at h; omega
    obtain ⟨n1, n2, n3⟩ := node_row hn
    have il := r_is_tree l n h1 n2 fun w hw => ho w (by rw [row_split]; simp [hw])
    have ir := r_is_tree r n h2 n3 fun w hw => ho w (by rw [row_split]; simp [hw])
    have e1 : opIndex ((rowT (.node k l r)).map dS) [dS k] = .ok (.int (rowT l).length) := by rw [row_split]; exact index_dS _ _ _ n1
    have m : k ∈ rowT (.node k l r) := by rw [row_split]; simp
    have z1 := cut_take (rowT (.node k l r)) ((rowT l).length : Int) (by omega)
    have z2 := cut_drop (rowT (.node k l r)) ((rowT l).length + 1 : Int) (by omega)
    rw [Int.toNat_natCast, row_take] at z1
    rw [show ((rowT l).length + 1 : Int).toNat = (rowT l).length + 1 by omega, row_drop] at z2
    generalize rowT (.node k l r) = ks at *
    simp [R__law_is_tree, F__law_is_tree, m, e1, z1, z2, il, ir]
end Sk

namespace Sk
open PySem PySem.Spec PyProof.Rows L2
/-! texts of trees -/
def textT : Tr → Wd
  | .nil => [45]
  | .node k l r => [40] ++ textT l ++ [32] ++ k ++ [32] ++ textT r ++ [41]
theorem lit_dash : (PyData.str "-") = dS [45] := by unfold dS; congr 1
theorem lit_open : (PyData.str "(") = dS [40] := by unfold dS; congr 1
theorem lit_blank : (PyData.str " ") = dS [32] := by unfold dS; congr 1
theorem lit_close : (PyData.str ")") = dS [41] := by unfold dS; congr 1
theorem add_ok {a b : Wd} (h : a.length + b.length ≤ 100000) : opAdd (dS a) (dS b) = .ok (dS (a ++ b)) := by rw [o_addS, if_pos h]
theorem text_len (k : Wd) (l r : Tr) : (textT (.node k l r)).length = 4 + (textT l).length + k.length + (textT r).length := by simp [textT]; omega
theorem text7 {a b c : Wd} (h : 4 + a.length + b.length + c.length ≤ 100000) {α : Type} (f : D → Rs α) :
    ((opAdd (dS [40]) (dS a)).bind fun x => (opAdd x (dS [32])).bind fun x => (opAdd x (dS b)).bind fun x => (opAdd x (dS [32])).bind fun x => (opAdd x (dS c)).bind fun x => (opAdd x (dS [41])).bind f) = f (dS ([40] ++ a ++ [32] ++ b ++ [32] ++ c ++ [41])) := by
  rw [add_ok (by simp; omega), ok_bind', add_ok (by simp; omega), ok_bind', add_ok (by simp; omega), ok_bind', add_ok (by simp; omega), ok_bind', add_ok (by simp; omega), ok_bind', add_ok (by simp; omega), ok_bind']
theorem r_written : ∀ (t : Tr) (n : Nat), hgt t < n → (textT t).length ≤ 100000 → R_written n [dT t] = .ok (dS (textT t))
  | .nil, n + 1, _, _ => by simp [R_written, F_written, textT, lit_dash]
  | .node k l r, n + 1, h, hs => by
    have h1 : hgt l < n := by simp [hgt] at h; omega
    have h2 : hgt r < n := by simp [hgt] at h; omega
    rw [text_len] at hs
    have e1 := r_written l n h1 (by omega)
    have e2 := r_written r n h2 (by omega)
    simp [R_written, F_written, lit_dash, lit_open, lit_blank, lit_close, e1, e2, -o_addS, bind_assoc]
    rw [text7 hs]
    simp [textT]
theorem r_text : ∀ (t : Tr) (n : Nat), hgt t < n → (textT t).length ≤ 100000 → R__law_text n [dT t] = .ok (dS (textT t))
  | .nil, n + 1, _, _ => by simp [R__law_text, F__law_text, textT, lit_dash]
  | .node k l r, n + 1, h, hs => by
    have h1 : hgt l < n := by simp [hgt] at h; omega
    have h2 : hgt r < n := by simp [hgt] at h; omega
    rw [text_len] at hs
    have e1 := r_text l n h1 (by omega)
    have e2 := r_text r n h2 (by omega)
    simp [R__law_text, F__law_text, lit_dash, lit_open, lit_blank, lit_close, e1, e2, -o_addS, bind_assoc]
    rw [text7 hs]
    simp [textT]
/-! reading -/
theorem cut_one (x : Wd) (a : Nat) : cutD x (some (a : Int)) (some ((a : Int) + 1)) = x[a]?.toList := by
  unfold cutD
  rw [sIx_nn _ _ _ (by omega), sIx_nn _ _ _ (by omega), Int.toNat_natCast, show ((a : Int) + 1).toNat = a + 1 by omega]
  by_cases c : a < x.length
  · rw [Nat.min_eq_left (by omega), Nat.min_eq_left (by omega), show a + 1 - a = 1 by omega, List.take_one, List.head?_drop]
  · rw [Nat.min_eq_right (by omega), Nat.min_eq_right (by omega), Nat.sub_self, List.take_zero, List.getElem?_eq_none (by omega)]; rfl
theorem toList_one (o : Option Nat) (c : Nat) : (o.toList = [c]) ↔ o = some c := by cases o <;> simp
def wend (x : Wd) (s : Nat) : Nat := s + ((x.drop s).takeWhile isL).length
def parse : Nat → Wd → Nat → Option (Tr × Nat)
  | 0, _, _ => none
  | f + 1, x, a => if x[a]? = some 45 then some (.nil, a + 1) else if x[a]? = some 40 then
      (parse f x (a + 1)).bind fun l => if x[l.2]? = some 32 then if x[wend x (l.2 + 1)]? = some 32 then
        (parse f x (wend x (l.2 + 1) + 1)).bind fun r => if x[r.2]? = some 41 then some (.node ((x.drop (l.2 + 1)).takeWhile isL) l.1 r.1, r.2 + 1) else none
      else none else none else none
def cnt (x : Wd) (a : Nat) : Nat := ((x.drop a).filter fun c => decide (c = 40)).length
theorem cnt_le (x : Wd) {a b : Nat} (h : a ≤ b) : cnt x b ≤ cnt x a := by
  unfold cnt
  obtain ⟨d, rfl⟩ : ∃ d, b = a + d := ⟨b - a, by omega⟩
  rw [← List.drop_drop]
  exact (((List.drop_sublist d (x.drop a))).filter _).length_le
theorem cnt_open (x : Wd) (a : Nat) (h : x[a]? = some 40) : cnt x (a + 1) + 1 = cnt x a := by
  obtain ⟨h1, h2⟩ := List.getElem?_eq_some_iff.mp h
  unfold cnt
  rw [List.drop_eq_getElem_cons h1, h2, List.filter_cons]
  simp
theorem parse_at : ∀ (f : Nat) (x : Wd) (a : Nat) (r : Tr × Nat), parse f x a = some r → a < r.2 ∧ r.2 ≤ x.length
  | 0, _, _, _, h => by simp [parse] at h
  | f + 1, x, a, r, h => by
    unfold parse at h
    split at h
    · rename_i h1
      have := (List.getElem?_eq_some_iff.mp h1).1
      cases h
      exact ⟨Nat.lt_succ_self a, this⟩
    · split at h
      · obtain ⟨l, hl, h⟩ := Option.bind_eq_some_iff.mp h
        split at h
        · split at h
          · obtain ⟨q, hq, h⟩ := Option.bind_eq_some_iff.mp h
            split at h
            · rename_i h5
              have := (List.getElem?_eq_some_iff.mp h5).1
              have i1 := parse_at f x _ _ hl
              have i2 := parse_at f x _ _ hq
              cases h
              have h9 : l.2 + 1 ≤ wend x (l.2 + 1) := Nat.le_add_right _ _
              exact ⟨by show a < q.2 + 1; omega, this⟩
            · cases h
          · cases h
        · cases h
      · cases h
theorem wend_loop (x : Wd) (hx : x.length ≤ 900) : ∀ (f a : Nat), ((x.drop a).takeWhile isL).length < f → a ≤ x.length → whileN (bAnd (bE (e2 opLt (eV 1) (eA opLen (aC (eV 0) aN)))) (bE (e2 opIn (e2 opIx (eV 0) (eV 1)) (eC (.str "abcdefghijklmnopqrstuvwxyz"))))) B1_word_end f
    [.sh (dS x), .sh (.int a)] = .ok (.nx [.sh (dS x), .sh (.int (wend x a))])
  | 0, a, h, _ => by omega
  | f + 1, a, h, ha => by
    have l1 : x.length ≤ 100000 := by omega
    by_cases c : a < x.length
    · have e1 : x[a]? = some x[a] := List.getElem?_eq_getElem c
      have e2 : x.drop a = x[a] :: x.drop (a + 1) := List.drop_eq_getElem_cons c
      have c' : (a : Int) < x.length := by omega
      by_cases d : isL x[a] = true
      · have d' : x[a] ∈ lettersW := (mem_letters _).mpr (of_decide_eq_true d)
        rw [e2, List.takeWhile_cons, if_pos d] at h
        have ih := wend_loop x hx f (a + 1) (by simpa using h) (by omega)
        have w : wend x a = wend x (a + 1) := by
          unfold wend
          rw [e2, List.takeWhile_cons, if_pos d, List.length_cons]; omega
        have e3 : ((a : Int) + 1) = ((a + 1 : Nat) : Int) := by omega
        simp [whileN, x_B1_word_end, l1, c, atI_nat, e1, lit_letters, d']
        rw [e3, ← lit_letters, ih, w]
      · have d' : ¬ x[a] ∈ lettersW := fun z => d (decide_eq_true ((mem_letters _).mp z))
        have w : wend x a = a := by
          unfold wend
          rw [e2, List.takeWhile_cons, if_neg d]; rfl
        simp [whileN, x_B1_word_end, l1, c, atI_nat, e1, lit_letters, d', w]
    · have w : wend x a = a := by
        unfold wend
        rw [List.drop_of_length_le (by omega)]; rfl
      simp [whileN, x_B1_word_end, l1, c, w]
theorem r_wend (n : Nat) (x : Wd) (a : Nat) (hx : x.length ≤ 900) (ha : a ≤ x.length) : R_word_end (n + 1) [dS x, .int a] = .ok (.int (wend x a)) := by
  have h1 : ((x.drop a).takeWhile isL).length ≤ x.length := Nat.le_trans (List.takeWhile_sublist _).length_le (by rw [List.length_drop]; omega)
  have e := wend_loop x hx 1000 a (by omega) ha
  simp [R_word_end, F_word_end, e]
theorem r_behind (n : Nat) (x : Wd) (a c : Nat) (hx : x.length ≤ 900) : R_behind (n + 1) [dS x, .int a, dS [c]] = if x[a]? = some c then .ok (.int (a + 1)) else .exc "BadText" := by
  have l1 : x.length ≤ 100000 := by omega
  by_cases d : x[a]? = some c
  · simp [R_behind, F_behind, l1, cut_one, toList_one, d]
  · have d' : ¬ x[a]?.toList = [c] := fun z => d ((toList_one _ _).mp z)
    simp [R_behind, F_behind, l1, cut_one, d, d']
theorem wend_le (x : Wd) {s : Nat} (h : s ≤ x.length) : wend x s ≤ x.length := by
  unfold wend
  have := (List.takeWhile_sublist isL (l := x.drop s)).length_le
  rw [List.length_drop] at this
  omega
theorem take_tw {α : Type} (p : α → Bool) : ∀ l : List α, l.take (l.takeWhile p).length = l.takeWhile p
  | [] => rfl
  | x :: l => by
    rw [List.takeWhile_cons]
    split
    · rw [List.length_cons, List.take_succ_cons, take_tw p l]
    · rfl
theorem cut_word (x : Wd) (s : Nat) (h : s ≤ x.length) : cutD x (some (s : Int)) (some (wend x s : Int)) = (x.drop s).takeWhile isL := by
  have h2 := wend_le x h
  have h3 : s ≤ wend x s := Nat.le_add_right _ _
  rw [cut_mid x _ _ (by omega) (by omega) (by omega), Int.toNat_natCast, show ((wend x s : Int) - (s : Int)).toNat = ((x.drop s).takeWhile isL).length by unfold wend; omega]
  exact take_tw _ _
def outP : Option (Tr × Nat) → Rs D
  | some r => .ok (.tuple [dT r.1, .int r.2])
  | none => .exc "BadText"
theorem r_tree_at (x : Wd) (hx : x.length ≤ 900) : ∀ (f a : Nat), cnt x a < f → a ≤ x.length → R_tree_at (f + 1) [dS x, .int a] = outP (parse f x a)
  | 0, a, h, _ => by omega
  | f + 1, a, h, ha => by
    have st : ∀ ds, R_tree_at (f + 1 + 1) ds = fnOf 6 2 .e (F_tree_at (R_tree_at (f + 1)) (R_behind (f + 1)) (R_word_end (f + 1))) ds := fun _ => rfl
    rw [st]
    have l1 : x.length ≤ 100000 := by omega
    have bh := fun a c => r_behind f x a c hx
    have we := fun a h => r_wend f x a hx h
    have ca : ((a : Int) + 1) = ((a + 1 : Nat) : Int) := by omega
    by_cases c1 : x[a]? = some 45
    · have p : parse (f + 1) x a = some (.nil, a + 1) := by simp [parse, c1]
      rw [p]
      simp [F_tree_at, l1, cut_one, toList_one, c1, lit_dash, outP]
    · have c1' : ¬ x[a]?.toList = [45] := fun z => c1 ((toList_one _ _).mp z)
      by_cases c2 : x[a]? = some 40
      · have hlt := (List.getElem?_eq_some_iff.mp c2).1
        have ih := r_tree_at x hx f (a + 1) (by have := cnt_open x a c2; omega) hlt
        rw [← ca] at ih
        have b1 := bh a 40
        rw [if_pos c2] at b1
        cases hp : parse f x (a + 1) with
        | none =>
          have p : parse (f + 1) x a = none := by simp [parse, c1, c2, hp]
          rw [p]
          rw [hp] at ih
          simp [F_tree_at, l1, cut_one, c1', lit_dash, lit_open, outP, b1] at ih ⊢
          simp [ih]
        | some l =>
          obtain ⟨l, a1⟩ := l
          obtain ⟨g1, g2⟩ := parse_at f x _ _ hp
          simp only at g1 g2
          rw [hp] at ih
          have b2 := bh a1 32
          by_cases c3 : x[a1]? = some 32
          · have h3 := (List.getElem?_eq_some_iff.mp c3).1
            rw [if_pos c3] at b2
            have w1 := we (a1 + 1) h3
            rw [show ((a1 + 1 : Nat) : Int) = (a1 : Int) + 1 by omega] at w1
            have h4 := wend_le x h3
            have b3 := bh (wend x (a1 + 1)) 32
            by_cases c4 : x[wend x (a1 + 1)]? = some 32
            · rw [if_pos c4] at b3
              have h5 := (List.getElem?_eq_some_iff.mp c4).1
              have g3 : a1 + 1 ≤ wend x (a1 + 1) := Nat.le_add_right _ _
              have ih2 := r_tree_at x hx f (wend x (a1 + 1) + 1) (by have := cnt_open x a c2; have := cnt_le x (show a + 1 ≤ wend x (a1 + 1) + 1 by omega); omega) h5
              rw [show ((wend x (a1 + 1) + 1 : Nat) : Int) = (wend x (a1 + 1) : Int) + 1 by omega] at ih2
              cases hq : parse f x (wend x (a1 + 1) + 1) with
              | none =>
                have p : parse (f + 1) x a = none := by simp [parse, c1, c2, hp, c3, c4, hq]
                rw [p]
                rw [hq] at ih2
                simp [F_tree_at, l1, cut_one, c1', lit_dash, lit_open, lit_blank, outP, b1, b2, b3, w1] at ih ih2 ⊢
                simp [ih, ih2, b2, b3, w1]
              | some r =>
                obtain ⟨r, a2⟩ := r
                rw [hq] at ih2
                have b4 := bh a2 41
                have cw := cut_word x (a1 + 1) h3
                rw [show ((a1 + 1 : Nat) : Int) = (a1 : Int) + 1 by omega] at cw
                by_cases c5 : x[a2]? = some 41
                · have p : parse (f + 1) x a = some (.node ((x.drop (a1 + 1)).takeWhile isL) l r, a2 + 1) := by simp [parse, c1, c2, hp, c3, c4, hq, c5]
                  rw [p]
                  rw [if_pos c5] at b4
                  simp [F_tree_at, l1, cut_one, c1', lit_dash, lit_open, lit_blank, lit_close, outP, b1] at ih ih2 ⊢
                  simp [ih, ih2, b2, b3, b4, w1, cw, l1]
                · have p : parse (f + 1) x a = none := by simp [parse, c1, c2, hp, c3, c4, hq, c5]
                  rw [p]
                  rw [if_neg c5] at b4
                  simp [F_tree_at, l1, cut_one, c1', lit_dash, lit_open, lit_blank, lit_close, outP, b1] at ih ih2 ⊢
                  simp [ih, ih2, b2, b3, b4, w1, cw, l1]
            · rw [if_neg c4] at b3
              have p : parse (f + 1) x a = none := by simp [parse, c1, c2, hp, c3, c4]
              rw [p]
              simp [F_tree_at, l1, cut_one, c1', lit_dash, lit_open, lit_blank, outP, b1] at ih ⊢
              simp [ih, b2, b3, w1]
          · rw [if_neg c3] at b2
            have p : parse (f + 1) x a = none := by simp [parse, c1, c2, hp, c3]
            rw [p]
            simp [F_tree_at, l1, cut_one, c1', lit_dash, lit_open, lit_blank, outP, b1] at ih ⊢
            simp [ih, b2]
      · have p : parse (f + 1) x a = none := by simp [parse, c1, c2]
        rw [p]
        have b1 := bh a 40
        rw [if_neg c2] at b1
        simp [F_tree_at, l1, cut_one, c1', lit_dash, lit_open, outP, b1]
theorem parse_sz : ∀ (f : Nat) (x : Wd) (a : Nat) (r : Tr × Nat), parse f x a = some r → hgt r.1 < f ∧ sizeT r.1 + a ≤ r.2 ∧ ∀ w ∈ rowT r.1, w.length ≤ x.length
  | 0, _, _, _, h => by simp [parse] at h
  | f + 1, x, a, r, h => by
    unfold parse at h
    split at h
    · cases h
      exact ⟨Nat.succ_pos _, by simp [sizeT], by simp [rowT]⟩
    · split at h
      · obtain ⟨l, hl, h⟩ := Option.bind_eq_some_iff.mp h
        split at h
        · split at h
          · obtain ⟨q, hq, h⟩ := Option.bind_eq_some_iff.mp h
            split at h
            · obtain ⟨i1, i2, i3⟩ := parse_sz f x _ _ hl
              obtain ⟨j1, j2, j3⟩ := parse_sz f x _ _ hq
              cases h
              have h9 : l.2 + 1 ≤ wend x (l.2 + 1) := Nat.le_add_right _ _
              refine ⟨by simp only [hgt]; omega, by simp only [sizeT]; omega, fun w hw => ?_⟩
              rw [row_split] at hw
              simp only [List.mem_append, List.mem_cons] at hw
              rcases hw with hw | rfl | hw
              · exact i3 w hw
              · exact Nat.le_trans (List.takeWhile_sublist _).length_le (by rw [List.length_drop]; omega)
              · exact j3 w hw
            · cases h
          · cases h
        · cases h
      · cases h
def outR (x : Wd) : Option (Tr × Nat) → Rs D
  | some r => if r.2 = x.length ∧ keysB (rowT r.1) = true then .ok (dT r.1) else .exc "BadText"
  | none => .exc "BadText"
theorem r_read (x : Wd) (hx : x.length ≤ 900) (f : Nat) (h : cnt x 0 < f) : R_read (f + 2) [dS x] = outR x (parse f x 0) := by
  have e := r_tree_at x hx f 0 h (Nat.zero_le _)
  have l1 : x.length ≤ 100000 := by omega
  have st : ∀ ds, R_read (f + 2) ds = fnOf 2 1 .e (F_read (R_tree_at (f + 1)) (R_are_keys (f + 1)) (R_row_of (f + 1))) ds := fun _ => rfl
  rw [st]
  cases hp : parse f x 0 with
  | none =>
    rw [hp] at e
    simp [outP] at e
    simp [F_read, e, outR]
  | some r =>
    obtain ⟨t, b⟩ := r
    rw [hp] at e
    obtain ⟨s1, s2, s3⟩ := parse_sz f x 0 _ hp
    have s4 := (parse_at f x 0 _ hp).2
    simp only at s1 s2 s3 s4
    have e2 := r_row t (f + 1) (by omega) (by omega)
    obtain ⟨g, rfl⟩ : ∃ g, f = g + 1 := ⟨f - 1, by omega⟩
    have e3 := r_are_keys g (rowT t) (by rw [row_len]; omega) (fun w hw => Nat.le_trans (s3 w hw) l1)
    simp [outP] at e
    by_cases c : b = x.length
    · cases d : keysB (rowT t) <;> simp [F_read, e, outR, l1, c, e2, e3, d]
    · have c' : ¬ (b : Int) = x.length := by omega
      simp [F_read, e, outR, l1, c]
      rw [if_neg c']
      rfl
/-- what is written is read -/
theorem tw_app (k q : Wd) (hk : ∀ c ∈ k, isL c = true) (hq : ∀ c, q.head? = some c → isL c = false) : (k ++ q).takeWhile isL = k := by
  induction k with
  | nil =>
    cases q with
    | nil => rfl
    | cons c q =>
      have := hq c rfl
      simp [List.takeWhile_cons, this]
  | cons a k ih =>
    rw [List.cons_append, List.takeWhile_cons, if_pos (hk a List.mem_cons_self), ih fun c hc => hk c (List.mem_cons_of_mem _ hc)]
theorem at_app {X A B : Wd} {c i : Nat} (h : X = A ++ c :: B) (hi : i = A.length) : X[i]? = some c := by subst h hi; simp
theorem parse_text : ∀ (t : Tr) (f : Nat) (p q : Wd), hgt t < f → (∀ w ∈ rowT t, ∀ c ∈ w, isL c = true) → parse f (p ++ textT t ++ q) p.length = some (t, p.length + (textT t).length)
  | .nil, f + 1, p, q, _, _ => by simp [parse, textT]
  | .node k l r, f + 1, p, q, h, hw => by
    have h1 : hgt l < f := by simp [hgt] at h; omega
    have h2 : hgt r < f := by simp [hgt] at h; omega
    have w1 : ∀ w ∈ rowT l, ∀ c ∈ w, isL c = true := fun w hm => hw w (by rw [row_split]; simp [hm])
    have w2 : ∀ w ∈ rowT r, ∀ c ∈ w, isL c = true := fun w hm => hw w (by rw [row_split]; simp [hm])
    have wk : ∀ c ∈ k, isL c = true := hw k (by rw [row_split]; simp)
    generalize hX : p ++ textT (.node k l r) ++ q = X
    have x1 : X = (p ++ [40]) ++ textT l ++ (32 :: (k ++ 32 :: (textT r ++ 41 :: q))) := by rw [← hX]; simp [textT]
    have x2 : X = (p ++ [40] ++ textT l ++ [32] ++ k ++ [32]) ++ textT r ++ (41 :: q) := by rw [← hX]; simp [textT]
    have i1 := parse_text l f (p ++ [40]) (32 :: (k ++ 32 :: (textT r ++ 41 :: q))) h1 w1
    have i2 := parse_text r f (p ++ [40] ++ textT l ++ [32] ++ k ++ [32]) (41 :: q) h2 w2
    rw [← x1] at i1
    rw [← x2] at i2
    have a0 : X[p.length]? = some 40 := by rw [x1]; simp
    have a1 : X[p.length + 1 + (textT l).length]? = some 32 := at_app x1 (by simp; omega)
    have e2 : X.drop (p.length + 1 + (textT l).length + 1) = k ++ 32 :: (textT r ++ 41 :: q) := by
      have : X = (p ++ [40] ++ textT l ++ [32]) ++ (k ++ 32 :: (textT r ++ 41 :: q)) := by rw [x1]; simp
      rw [this, List.drop_left' (by simp; omega)]
    have tw : (X.drop (p.length + 1 + (textT l).length + 1)).takeWhile isL = k := by
      rw [e2]
      exact tw_app _ _ wk (by intro c hc; simp at hc; subst hc; decide)
    have we : wend X (p.length + 1 + (textT l).length + 1) = p.length + 1 + (textT l).length + 1 + k.length := by unfold wend; rw [tw]
    have a2 : X[p.length + 1 + (textT l).length + 1 + k.length]? = some 32 := by
      rw [← List.getElem?_drop, e2]; simp
    have a3 : X[p.length + 1 + (textT l).length + 1 + k.length + 1 + (textT r).length]? = some 41 := by
      exact at_app x2 (by simp; omega)
    simp only [List.length_append, List.length_singleton] at i1 i2
    have a0' : ¬ X[p.length]? = some 45 := by rw [a0]; simp
    unfold parse
    rw [if_neg a0', if_pos a0, i1]
    simp only [Option.bind_some]
    rw [if_pos a1, we, if_pos a2, i2]
    simp only [Option.bind_some]
    rw [if_pos a3, tw, text_len]
    congr 2
    omega
end Sk

namespace Sk
open PySem PySem.Spec PyProof.Rows L2
/-! ### _law_end, walked by hand: its text's address of words is kept -/
section
variable {Z : Wh} {fe : Ev → Rs D} {gc : Ev → Rs Bool} {σ : L2.St} {H : Hp} {ev : Ev}
theorem e0_same {H : Hp} : Same (fun _ => none) H := fun _ _ e => nomatch e
theorem tE_i {Q : VK} {i : Int} (rv : RpV Z.K (fun _ => none) σ ev) (h : fe ev = .ok (.int i)) (q : ∀ H', Same H H' → Q (.int i) H') : tE Z fe σ H Q :=
  ⟨fun _ => none, ev, e0_same, rv, by rw [h]; exact fun v H0' H' y r => by cases (show v = V.int i from r); exact q H' y.b⟩
theorem tE_s {Q : VK} {z : Str} (rv : RpV Z.K (fun _ => none) σ ev) (h : fe ev = .ok (.str z)) (q : ∀ H', Same H H' → Q (.str z) H') : tE Z fe σ H Q :=
  ⟨fun _ => none, ev, e0_same, rv, by rw [h]; exact fun v H0' H' y r => by cases (show v = V.str z from r); exact q H' y.b⟩
theorem tB_n {Q : Bool → Hp → Prop} {b : Bool} (rv : RpV Z.K (fun _ => none) σ ev) (h : gc ev = .ok b) (q : ∀ H', Same H H' → Q b H') : tB Z gc σ H Q :=
  ⟨fun _ => none, ev, e0_same, rv, by rw [h]; exact q⟩
end
def gAt (k : Nat) (c : String) : Ev → Rs Bool := bE (e2 opNe (eSl opSlS (eV 0) (oS (eV k)) (oS (e2 opAdd (eV k) (eC (.int 1))))) (eC (.str (Str.ofString c))))
def gNo (c : String) : Ev → Rs Bool := bOr (bE (e2 opLt (eV 1) (eC (.int 0)))) (gAt 1 c)
def tIR (Z : Wh) (gc : Ev → Rs Bool) (fe : Ev → Rs D) : TS := tIfS (tB Z gc) (tRet (tE Z fe)) tNext
def tCE (Z : Wh) (n : Nat) (fe : Ev → Rs D) : TS := tAsg (tCall (spE n) [] Z.E (tCons (tE Z (eV 0)) (tCons (tE Z fe) (tCons (tVar 2) tNil)))) (gName 1)
def pl1 (k : Nat) : Ev → Rs D := e2 opAdd (eV k) (eC (.int 1))
def gEq : Ev → Rs Bool := bE (e2 opEq (eSl opSlS (eV 0) (oS (eV 1)) (oS (e2 opAdd (eV 1) (eC (.int 1))))) (eC (.str "-")))
def gWh : Ev → Rs Bool := bAnd (bE (e2 opLt (eV 3) (eA opLen (aC (eV 0) aN)))) (bE (eCh opLe opLe (eC (.str "a")) (e2 opIx (eV 0) (eV 3)) (eC (.str "z"))))
def neg1 : Ev → Rs D := e1 opNeg (eC (.int 1))
def tEndT (Z : Wh) (n : Nat) : TS :=
  tSeq (tIR Z gEq (pl1 1)) (tSeq (tIR Z (gAt 1 "(") neg1) (tSeq (tCE Z n (pl1 1)) (tSeq (tIR Z (gNo " ") neg1) (tSeq (tAsg (tE Z (pl1 1)) (gName 3)) (tSeq (tWhile (tB Z gWh) (tAsg (tE Z (pl1 3)) (gName 3)))
    (tSeq (tDrop (tBM Z.K "list" rAppend (tVar 2) (tCons (tE Z (eSl opSlS (eV 0) (oS (pl1 1)) (oS (eV 3)))) tNil))) (tSeq (tIR Z (gAt 3 " ") neg1) (tSeq (tCE Z n (pl1 3)) (tSeq (tIR Z (gNo ")") neg1) (tRet (tE Z (pl1 1))))))))))))
/-! the state: text, at, words, end -/
def st4 (x : Wd) (a : Int) (p : Addr) (s3 : Option V) : L2.St := [some (.str ⟨x.toArray⟩), some (.int a), some (.ref p), s3]
def ev4 (x : Wd) (a : Int) (e3 : Option D) : Ev := [some (dS x), some (.int a), none, e3]
theorem rv0 {K : PySem.W.Frag} {H : Hp} {x : Wd} {a : Int} {p : Addr} (s3 : Option V) : RpV K H (st4 x a p s3) (ev4 x a none) := ⟨rfl, fun i d h => by
  match i, h with
  | 0, h => cases h; exact ⟨_, rfl, rfl⟩
  | 1, h => cases h; exact ⟨_, rfl, rfl⟩
  | 2, h => cases h
  | 3, h => cases h
  | _ + 4, h => simp [ev4] at h⟩
theorem rv3 {K : PySem.W.Frag} {H : Hp} {x : Wd} {a : Int} {p : Addr} {e : Int} : RpV K H (st4 x a p (some (.int e))) (ev4 x a (some (.int e))) := ⟨rfl, fun i d h => by
  match i, h with
  | 0, h => cases h; exact ⟨_, rfl, rfl⟩
  | 1, h => cases h; exact ⟨_, rfl, rfl⟩
  | 2, h => cases h
  | 3, h => cases h; exact ⟨_, rfl, rfl⟩
  | _ + 4, h => simp [ev4] at h⟩
/-! the tests, evaluated -/
section
variable {x : Wd} {p : Addr} {a e : Nat} {e3 : Option D}
theorem v_eq (hx : x.length ≤ 900) : gEq (ev4 x a e3) = .ok (decide (x[a]? = some 45)) := by
  have l1 : x.length ≤ 100000 := by omega
  simp only [gEq, ev4, lit_dash]
  simp [l1, cut_one]
theorem ne_dec (o : Option Nat) (c : Nat) : (!decide (o.toList = [c])) = !decide (o = some c) := by
  congr 1
  exact decide_eq_decide.mpr (toList_one o c)
theorem v_at1 {c : String} {k : Nat} (hx : x.length ≤ 900) (hc : PyData.str (Str.ofString c) = dS [k]) : gAt 1 c (ev4 x a e3) = .ok (!decide (x[a]? = some k)) := by
  have l1 : x.length ≤ 100000 := by omega
  simp only [gAt, ev4, hc]
  simp [l1, cut_one]
theorem v_at3 {c : String} {k : Nat} {a' : Int} (hx : x.length ≤ 900) (hc : PyData.str (Str.ofString c) = dS [k]) : gAt 3 c (ev4 x a' (some (.int e))) = .ok (!decide (x[e]? = some k)) := by
  have l1 : x.length ≤ 100000 := by omega
  simp only [gAt, ev4, hc]
  simp [l1, cut_one]
theorem v_no {c : String} {k : Nat} (hx : x.length ≤ 900) (hc : PyData.str (Str.ofString c) = dS [k]) : gNo c (ev4 x a e3) = .ok (!decide (x[a]? = some k)) := by
  have h := v_at1 (a := a) (e3 := e3) hx hc
  unfold gNo
  rw [x_bOr, h]
  have n : ¬ (a : Int) < 0 := by omega
  simp [ev4, n]
theorem v_no1 {c : String} : gNo c (ev4 x (-1) e3) = .ok true := by
  unfold gNo
  rw [x_bOr]
  simp [ev4]
theorem v_pl1 : pl1 1 (ev4 x a e3) = .ok (.int ((a + 1 : Nat) : Int)) := by simp [pl1, ev4]
theorem v_pl3 {a' : Int} : pl1 3 (ev4 x a' (some (.int e))) = .ok (.int ((e + 1 : Nat) : Int)) := by simp [pl1, ev4]
theorem v_neg {ev : Ev} : neg1 ev = .ok (.int (-1)) := by simp [neg1]
theorem lit_za : (PyData.str "a") = dS [97] := by unfold dS; congr 1
theorem lit_zz : (PyData.str "z") = dS [122] := by unfold dS; congr 1
theorem lt_one (c d : Nat) : (([c] : Wd) < [d]) ↔ c < d := by
  rw [List.cons_lt_cons_iff]
  simp
theorem v_wh {a' : Int} (hx : x.length ≤ 900) : gWh (ev4 x a' (some (.int e))) = .ok (match x[e]? with | some c => isLt c | none => false) := by
  have l1 : x.length ≤ 100000 := by omega
  unfold gWh
  rw [lit_za, lit_zz, x_bAnd]
  by_cases c : e < x.length
  · have e1 : x[e]? = some x[e] := List.getElem?_eq_getElem c
    have ix : opIx (dS x) (.int (e : Int)) = .ok (dS [x[e]]) := by
      show (if (⟨x.toArray⟩ : Str).length ≤ 100000 then rsO ((atI (⟨x.toArray⟩ : Str).cps.toList (e : Int)).map fun c => PyData.str ⟨#[c]⟩) else .bad) = _
      rw [if_pos (by simpa [Str.length] using l1)]
      show rsO ((atI x (e : Int)).map fun c => PyData.str ⟨#[c]⟩) = _
      rw [atI_nat (by omega), Int.toNat_natCast, e1]; rfl
    have c' : (e : Int) < x.length := by omega
    by_cases d1 : x[e] < 97
    · have f1 : isLt x[e] = false := decide_eq_false (by omega)
      simp [ev4, l1, c, ix, e1, f1, lt_one, d1]
    · by_cases d2 : 122 < x[e]
      · have f1 : isLt x[e] = false := decide_eq_false (by omega)
        simp [ev4, l1, c, ix, e1, f1, lt_one, d1, d2]
      · have f1 : isLt x[e] = true := decide_eq_true (by omega)
        simp [ev4, l1, c, ix, e1, f1, lt_one, d1, d2]
  · have e1 : x[e]? = none := List.getElem?_eq_none (by omega)
    have c' : ¬ (e : Int) < x.length := by omega
    simp [ev4, l1, c, e1]
theorem v_sl (hx : x.length ≤ 900) (ha : a + 1 ≤ x.length) (he : e = wnd x (a + 1)) : (eSl opSlS (eV 0) (oS (pl1 1)) (oS (eV 3))) (ev4 x a (some (.int e))) = .ok (dS (wrd x (a + 1))) := by
  have l1 : x.length ≤ 100000 := by omega
  have cw := cut_word x (a + 1) ha
  have e1 : (wnd x (a + 1) : Int) = (wend x (a + 1) : Int) := rfl
  have e2 : ((a + 1 : Nat) : Int) = (a : Int) + 1 := by omega
  rw [e2] at cw
  rw [he]
  simp [ev4, pl1, l1, e1, cw]
  rfl
end
/-! facts of endW -/
theorem endW_at : ∀ (f : Nat) (x : Wd) (a : Nat) (r : Nat × List Wd), endW f x a = some r → a + 1 ≤ r.1 ∧ r.1 ≤ x.length ∧ r.2.length + a + 1 ≤ r.1
  | 0, _, _, _, h => by simp [endW] at h
  | f + 1, x, a, r, h => by
    unfold endW at h
    split at h
    · rename_i h1
      have := (List.getElem?_eq_some_iff.mp h1).1
      cases h
      exact ⟨Nat.le_refl _, this, by simp⟩
    · split at h
      · obtain ⟨l, hl, h⟩ := Option.bind_eq_some_iff.mp h
        split at h
        · split at h
          · obtain ⟨q, hq, h⟩ := Option.bind_eq_some_iff.mp h
            split at h
            · rename_i h5
              have h6 := (List.getElem?_eq_some_iff.mp h5).1
              obtain ⟨i1, i2, i3⟩ := endW_at f x _ _ hl
              obtain ⟨j1, j2, j3⟩ := endW_at f x _ _ hq
              cases h
              have h9 : l.1 + 1 ≤ wnd x (l.1 + 1) := Nat.le_add_right _ _
              refine ⟨by show a + 1 ≤ q.1 + 1; omega, h6, ?_⟩
              simp only [List.length_append, List.length_cons]
              omega
            · cases h
          · cases h
        · cases h
      · cases h
theorem ctO_le (x : Wd) {a b : Nat} (h : a ≤ b) : ctO x b ≤ ctO x a := cnt_le x h
theorem ctO_open (x : Wd) (a : Nat) (h : x[a]? = some 40) : ctO x (a + 1) + 1 = ctO x a := cnt_open x a h
theorem wnd_step {x : Wd} {e : Nat} (h : (match x[e]? with | some c => isLt c | none => false) = true) : wnd x e = wnd x (e + 1) ∧ e < x.length := by
  cases q : x[e]? with
  | none => rw [q] at h; cases h
  | some c =>
    rw [q] at h
    obtain ⟨h1, h2⟩ := List.getElem?_eq_some_iff.mp q
    refine ⟨?_, h1⟩
    unfold wnd
    rw [List.drop_eq_getElem_cons h1, List.takeWhile_cons, h2, if_pos h, List.length_cons]
    omega
theorem wnd_stop {x : Wd} {e : Nat} (h : (match x[e]? with | some c => isLt c | none => false) = false) : wnd x e = e := by
  unfold wnd
  cases q : x[e]? with
  | none =>
    have := List.getElem?_eq_none_iff.mp q
    rw [List.drop_of_length_le this]; rfl
  | some c =>
    rw [q] at h
    obtain ⟨h1, h2⟩ := List.getElem?_eq_some_iff.mp q
    rw [List.drop_eq_getElem_cons h1, List.takeWhile_cons, h2, if_neg (by simpa using h)]; rfl
theorem wnd_le {x : Wd} {s : Nat} (h : s ≤ x.length) : wnd x s ≤ x.length := wend_le x h
theorem vs_append (ws : List V) (l : List Wd) (w : Wd) (r : List Wd) : ws ++ (l ++ w :: r).map vStr = ws ++ l.map vStr ++ [vStr w] ++ r.map vStr := by simp
theorem rd_end {Z : Wh} (n : Nat) {vs : List V} {H : Hp} {Q : VK} {N : List Str} (hN : N.length = 4) (h : spE (n + 1) vs H Q Z.E) : tEndT Z n { nx := fun _ H' => Q .non H', rt := Q } (L2.start N vs) H := by
  obtain ⟨z, a, p, ws, rfl, hp, hz, ha, hcap, hct, ok, no⟩ := h
  obtain ⟨x, rfl⟩ : ∃ x : Wd, z = ⟨x.toArray⟩ := ⟨z.cps.toList, by simp⟩
  have hx : x.length ≤ 900 := by simpa [Str.length] using hz
  have ha : a ≤ x.length := by simpa [Str.length] using ha
  have hcap : ws.length + (x.length - a) ≤ 100000 := by simpa [Str.length] using hcap
  simp only [List.toList_toArray] at hct ok no
  have e0 : L2.start N [V.str ⟨x.toArray⟩, .int (a : Int), .ref p] = st4 x a p none := by
    unfold L2.start
    rw [hN]; rfl
  rw [e0]
  refine tB_n (rv0 none) (v_eq hx) fun H1 s1 => ?_
  have hp1 := s1 _ _ hp
  by_cases c1 : x[a]? = some 45
  · rw [decide_eq_true c1, if_pos rfl]
    refine tE_i (rv0 none) v_pl1 fun H2 s2 => ok (a + 1, []) H2 (by simp [endW, c1]) (Off.same (s1.trans s2)) ?_
    simpa using s2 _ _ hp1
  rw [decide_eq_false c1, if_neg Bool.false_ne_true]
  refine tB_n (rv0 none) (v_at1 hx lit_open) fun H2 s2 => ?_
  have hp2 := s2 _ _ hp1
  have o2 : Off p H H2 := Off.same (s1.trans s2)
  by_cases c2 : x[a]? = some 40
  rotate_left
  · rw [decide_eq_false c2]
    simp only [Bool.not_false, if_true]
    exact tE_i (rv0 none) v_neg fun H3 s3 => no H3 ws (by simp [endW, c1, c2]) (o2.trans (Off.same s3)) (s3 _ _ hp2)
  rw [decide_eq_true c2]
  simp only [Bool.not_true, Bool.false_eq_true, if_false]
  have al := (List.getElem?_eq_some_iff.mp c2).1
  have co := ctO_open x a c2
  refine tE_s (rv0 none) (show eV 0 (ev4 x a none) = .ok (.str ⟨x.toArray⟩) from rfl) fun H3 s3 => tE_i (rv0 none) v_pl1 fun H4 s4 => ⟨.ref p, rfl, ?_⟩
  have hp4 := s4 _ _ (s3 _ _ hp2)
  have o4 : Off p H H4 := o2.trans (Off.same (s3.trans s4))
  refine ⟨⟨x.toArray⟩, a + 1, p, ws, rfl, hp4, hz, by show a + 1 ≤ (⟨x.toArray⟩ : Str).length; simp [Str.length]; omega, by show ws.length + ((⟨x.toArray⟩ : Str).length - (a + 1)) ≤ 100000; simp [Str.length]; omega, by simp only [List.toList_toArray]; omega, fun l H5 hl o5 hp5 => ?_, fun H5 us hl o5 hp5 => ?_⟩
  rotate_left
  · -- the left one is none
    simp only [List.toList_toArray] at hl
    have e5 : (st4 x a p none).set 1 (some (.int (-1))) = st4 x (-1) p none := rfl
    show tSeq (tIR Z (gNo " ") neg1) _ _ ((st4 x a p none).set 1 (some (.int (-1)))) H5
    rw [e5]
    refine tB_n (rv0 none) v_no1 fun H6 s6 => ?_
    rw [if_pos rfl]
    exact tE_i (rv0 none) v_neg fun H7 s7 => no H7 us (by simp [endW, c1, c2, hl]) (o4.trans (o5.trans (Off.same (s6.trans s7)))) (s7 _ _ (s6 _ _ hp5))
  simp only [List.toList_toArray] at hl
  obtain ⟨g1, g2, g3⟩ := endW_at n x (a + 1) l hl
  obtain ⟨b, lw⟩ := l
  simp only at g1 g2 g3 hp5
  have e5 : (st4 x a p none).set 1 (some (.int (b : Int))) = st4 x b p none := rfl
  show tSeq (tIR Z (gNo " ") neg1) _ _ ((st4 x a p none).set 1 (some (.int (b : Int)))) H5
  rw [e5]
  refine tB_n (rv0 none) (v_no hx lit_blank) fun H6 s6 => ?_
  have hp6 := s6 _ _ hp5
  have o6 : Off p H H6 := o4.trans (o5.trans (Off.same s6))
  by_cases c3 : x[b]? = some 32
  rotate_left
  · rw [decide_eq_false c3]
    simp only [Bool.not_false, if_true]
    exact tE_i (rv0 none) v_neg fun H7 s7 => no H7 _ (by simp [endW, c1, c2, hl, c3]) (o6.trans (Off.same s7)) (s7 _ _ hp6)
  rw [decide_eq_true c3]
  simp only [Bool.not_true, Bool.false_eq_true, if_false]
  have bl := (List.getElem?_eq_some_iff.mp c3).1
  refine tE_i (rv0 none) v_pl1 fun H7 s7 => ?_
  have hp7 := s7 _ _ hp6
  have o7 : Off p H H7 := o6.trans (Off.same s7)
  have e7 : (st4 x b p none).set 3 (some (.int ((b + 1 : Nat) : Int))) = st4 x b p (some (.int ((b + 1 : Nat) : Int))) := rfl
  show tSeq (tWhile _ _) _ _ ((st4 x b p none).set 3 (some (.int ((b + 1 : Nat) : Int)))) H7
  rw [e7]
  refine ⟨fun m σ' H' => ∃ e : Nat, σ' = st4 x b p (some (.int (e : Int))) ∧ b + 1 ≤ e ∧ e ≤ x.length ∧ wnd x e = wnd x (b + 1) ∧ m = x.length - e ∧ H' p = some (.lst (ws ++ lw.map vStr)) ∧ Off p H H', ⟨_, b + 1, rfl, Nat.le_refl _, bl, rfl, rfl, hp7, o7⟩, ?_⟩
  rintro m σ' H8 ⟨e, rfl, he1, he2, he3, rfl, hp8, o8⟩
  refine tB_n rv3 (v_wh hx) fun H9 s9 => ?_
  have hp9 := s9 _ _ hp8
  have o9 : Off p H H9 := o8.trans (Off.same s9)
  cases cw : (match x[e]? with | some c => isLt c | none => false) with
  | true =>
    rw [if_pos rfl]
    obtain ⟨w1, w2⟩ := wnd_step cw
    refine ⟨fun σ' H' => ∃ e' : Nat, e' = e + 1 ∧ σ' = st4 x b p (some (.int (e' : Int))) ∧ H' p = some (.lst (ws ++ lw.map vStr)) ∧ Off p H H', ?_, ?_⟩
    · rintro σ'' H'' ⟨e', rfl, rfl, hq, oq⟩
      exact ⟨x.length - (e + 1), by omega, e + 1, rfl, by omega, w2, by rw [← w1, he3], rfl, hq, oq⟩
    · exact tE_i rv3 v_pl3 fun H10 s10 => ⟨e + 1, rfl, rfl, s10 _ _ hp9, o9.trans (Off.same s10)⟩
  | false =>
    rw [if_neg Bool.false_ne_true]
    have we := wnd_stop cw
    have ee : e = wnd x (b + 1) := by rw [← he3, we]
    -- words.append(text[at + 1:end])
    refine ⟨.ref p, rfl, .inl ⟨rfl, _, SqL.of hp9⟩, ?_⟩
    refine tE_s rv3 (v_sl hx bl ee) fun H10 s10 => ?_
    refine ⟨p, _, _, rfl, rfl, s10 _ _ hp9, ?_, ?_⟩
    · rw [List.length_append, List.length_map]
      exact Nat.lt_of_le_of_lt (show ws.length + lw.length ≤ 100000 by omega) (by decide)
    have o11 : Off p H (upd H10 p (.lst (ws ++ lw.map vStr ++ [.str ⟨(wrd x (b + 1)).toArray⟩]))) := (o9.trans (Off.same s10)).trans Off.upd
    generalize hH : upd H10 p (.lst (ws ++ lw.map vStr ++ [.str ⟨(wrd x (b + 1)).toArray⟩])) = H11 at o11
    have hp11 : H11 p = some (.lst (ws ++ lw.map vStr ++ [vStr (wrd x (b + 1))])) := by rw [← hH, upd_same]; rfl
    refine tB_n rv3 (v_at3 hx lit_blank) fun H12 s12 => ?_
    have hp12 := s12 _ _ hp11
    have o12 := o11.trans (Off.same s12)
    by_cases c4 : x[e]? = some 32
    rotate_left
    · rw [decide_eq_false c4]
      simp only [Bool.not_false, if_true]
      exact tE_i rv3 v_neg fun H13 s13 => no H13 _ (by rw [ee] at c4; simp [endW, c1, c2, hl, c3, c4]) (o12.trans (Off.same s13)) (s13 _ _ hp12)
    rw [decide_eq_true c4]
    simp only [Bool.not_true, Bool.false_eq_true, if_false]
    have el := (List.getElem?_eq_some_iff.mp c4).1
    refine tE_s rv3 (show eV 0 (ev4 x b (some (.int (e : Int)))) = .ok (.str ⟨x.toArray⟩) from rfl) fun H13 s13 => tE_i rv3 v_pl3 fun H14 s14 => ⟨.ref p, rfl, ?_⟩
    have hp14 := s14 _ _ (s13 _ _ hp12)
    have o14 := o12.trans (Off.same (s13.trans s14))
    have cl := ctO_le x (show a + 1 ≤ e + 1 by omega)
    refine ⟨⟨x.toArray⟩, e + 1, p, _, rfl, hp14, hz, by show e + 1 ≤ (⟨x.toArray⟩ : Str).length; simp [Str.length]; omega, by
      show _ + ((⟨x.toArray⟩ : Str).length - (e + 1)) ≤ 100000
      simp [Str.length]; omega, by simp only [List.toList_toArray]; omega, fun r H15 hr o15 hp15 => ?_, fun H15 us hr o15 hp15 => ?_⟩
    rotate_left
    · simp only [List.toList_toArray] at hr
      rw [ee] at hr c4
      have e9 : (st4 x b p (some (.int (e : Int)))).set 1 (some (.int (-1))) = st4 x (-1) p (some (.int (e : Int))) := rfl
      show tSeq (tIR Z (gNo ")") neg1) _ _ ((st4 x b p (some (.int (e : Int)))).set 1 (some (.int (-1)))) H15
      rw [e9]
      refine tB_n rv3 v_no1 fun H16 s16 => ?_
      rw [if_pos rfl]
      exact tE_i rv3 v_neg fun H17 s17 => no H17 us (by simp [endW, c1, c2, hl, c3, c4, hr]) (o14.trans (o15.trans (Off.same (s16.trans s17)))) (s17 _ _ (s16 _ _ hp15))
    simp only [List.toList_toArray] at hr
    rw [ee] at hr c4
    obtain ⟨q, rw'⟩ := r
    simp only at hp15
    have e9 : (st4 x b p (some (.int (e : Int)))).set 1 (some (.int (q : Int))) = st4 x q p (some (.int (e : Int))) := rfl
    show tSeq (tIR Z (gNo ")") neg1) _ _ ((st4 x b p (some (.int (e : Int)))).set 1 (some (.int (q : Int)))) H15
    rw [e9]
    refine tB_n rv3 (v_no hx lit_close) fun H16 s16 => ?_
    have hp16 := s16 _ _ hp15
    have o16 := o14.trans (o15.trans (Off.same s16))
    by_cases c5 : x[q]? = some 41
    · rw [decide_eq_true c5]
      simp only [Bool.not_true, Bool.false_eq_true, if_false]
      refine tE_i rv3 v_pl1 fun H17 s17 => ok (q + 1, lw ++ wrd x (b + 1) :: rw') H17 (by simp [endW, c1, c2, hl, c3, c4, hr, c5]) (o16.trans (Off.same s17)) ?_
      rw [vs_append]
      exact s17 _ _ hp16
    · rw [decide_eq_false c5]
      simp only [Bool.not_false, if_true]
      exact tE_i rv3 v_neg fun H17 s17 => no H17 _ (by simp [endW, c1, c2, hl, c3, c4, hr, c5]) (o16.trans (Off.same s17)) (s17 _ _ hp16)
/-! ### the def -/
section
variable {P : Program} {w : World} {K : PySem.W.Frag} {mg : Str → Option Value} {base : Heap} {st : Stmt} {N ps : List Str}
theorem knE (Dx : Df K mg "_law_end" st ps) (S : FnScope N ps (defScope st)) (hN : N.length = 4) (hps : ps.length = 3)
    (hb : ∀ n f, mg "_law_end" = some (.ref f) → KnE P w K mg base n → ∀ (cdv : Value) (A : Around) (outer : List Env) (s : Shared) (H : Hp) (E : XK), Room n (A.deeper (envOfC "_law_end" (defScope st) s.heap.objs.size f cdv)) →
      PSs (cxOf CX0 P w K mg base N "_law_end" (defScope st) f cdv A outer s H E).nox (defBody st) (tEndT ⟨K, mg, E⟩ n)) : ∀ n, KnE P w K mg base n
  | 0 => by
    obtain ⟨f, fd, F, hm, hbi⟩ := Dx.ex
    have no : ∀ vs H Q E, ¬ spE 0 vs H Q E := fun vs H Q E ⟨_, _, _, _, _, _, _, _, _, hc, _⟩ => absurd hc (Nat.not_lt_zero _)
    exact ⟨f, fd, ps, ⟨fun vs H Q E h => (no vs H Q E h).elim, fun A outer s H args us vs Q E _ _ _ _ h => (no vs H Q E h).elim⟩, hm, F.kp, hbi⟩
  | n + 1 => by
    have ih := knE Dx S hN hps hb n
    obtain ⟨f, fd, F, hm, hbi⟩ := Dx.ex
    refine ⟨f, fd, ps, F.ok S (fun vs H Q E ⟨_, _, _, _, hv, _⟩ => by rw [hv, hps]; rfl) fun cdv A outer s H vs Q E hr h => ⟨_, hb n f hm ih cdv A outer s H E hr, ?_⟩, hm, F.kp, hbi⟩
    exact rd_end (Z := ⟨K, mg, E⟩) n hN h
end
end Sk

namespace Sk
namespace k16
open PySem PySem.Spec PyProof.Rows L2
def topS (i : Nat) : Stmt := PySem.Challenge.pw_seektree_k16_texts_refused.main.body.getD i (.Pass ⟨0, 0, 0, 0⟩)
abbrev st_row_of : Stmt := topS 11
abbrev st__law_cell_at : Stmt := topS 18
abbrev st__law_mix : Stmt := topS 19
abbrev st__law_many : Stmt := topS 20
abbrev st__law_keys : Stmt := topS 21
abbrev st__law_tree : Stmt := topS 22
abbrev st_is_word : Stmt := topS 9
abbrev st_are_keys : Stmt := topS 10
abbrev st_behind : Stmt := topS 13
abbrev st_word_end : Stmt := topS 14
abbrev st_tree_at : Stmt := topS 15
abbrev st_read : Stmt := topS 16
abbrev st__law_text : Stmt := topS 23
abbrev st__law_end : Stmt := topS 24
abbrev st__law_is_right : Stmt := topS 25
abbrev st__law_spoiled : Stmt := topS 26
abbrev st__law_refused_k16 : Stmt := topS 27
abbrev st_law_k16 : Stmt := topS 29
structure Xs (K : PySem.W.Frag) (mg : Str → Option Value) (C_BadText C_NoKeys C_NoTree C_SeekError : Addr) : Prop where
  g_BadText : mg "BadText" = some (.ref C_BadText)
  n_BadText : PySem.W.nsIn K mainGlobals "BadText" = some (some (.ref C_BadText))
  g_NoKeys : mg "NoKeys" = some (.ref C_NoKeys)
  n_NoKeys : PySem.W.nsIn K mainGlobals "NoKeys" = some (some (.ref C_NoKeys))
  g_NoTree : mg "NoTree" = some (.ref C_NoTree)
  n_NoTree : PySem.W.nsIn K mainGlobals "NoTree" = some (some (.ref C_NoTree))
  g_SeekError : mg "SeekError" = some (.ref C_SeekError)
  n_SeekError : PySem.W.nsIn K mainGlobals "SeekError" = some (some (.ref C_SeekError))
  e_BadText : ExcC K C_BadText
  i_BadText_NoKeys : PySem.W.kitOne K (.ref C_BadText) (.ref C_NoKeys) = some false
  i_BadText_NoTree : PySem.W.kitOne K (.ref C_BadText) (.ref C_NoTree) = some false
  i_BadText_SeekError : PySem.W.kitOne K (.ref C_BadText) (.ref C_SeekError) = some true
  i_BadText_ValueError : PySem.W.kitOne K (.ref C_BadText) (.type "ValueError") = some true
  m_BadText_BadText : PySem.W.exmOne K (.ref C_BadText) (.ref C_BadText) = some true
structure Tp (K : PySem.W.Frag) (mg : Str → Option Value) : Prop where
  n_ValueError : mg "ValueError" = none
  n_all : mg "all" = none
  n_int : mg "int" = none
  n_isinstance : mg "isinstance" = none
  n_len : mg "len" = none
  n_min : mg "min" = none
  n_range : mg "range" = none
  c_LETTERS : ∃ t, mg "LETTERS" = some (.str "abcdefghijklmnopqrstuvwxyz" t)
  c_MOST_KEYS : ∃ t, mg "MOST_KEYS" = some (.int 12 t)
  c_MOST_LETTERS : ∃ t, mg "MOST_LETTERS" = some (.int 8 t)
  x_BadText : Xc K mg "BadText"
  xs : ∃ C_BadText C_NoKeys C_NoTree C_SeekError : Addr, Xs K mg C_BadText C_NoKeys C_NoTree C_SeekError
  d_row_of : Df K mg "row_of" st_row_of ["tree"]
  d__law_cell_at : Df K mg "_law_cell_at" st__law_cell_at ["script", "k"]
  d__law_mix : Df K mg "_law_mix" st__law_mix ["cell", "k"]
  d__law_many : Df K mg "_law_many" st__law_many ["cell", "most"]
  d__law_keys : Df K mg "_law_keys" st__law_keys ["script", "many"]
  d__law_tree : Df K mg "_law_tree" st__law_tree ["keys", "cell", "first", "last"]
  d_is_word : Df K mg "is_word" st_is_word ["text"]
  d_are_keys : Df K mg "are_keys" st_are_keys ["keys"]
  d_behind : Df K mg "behind" st_behind ["text", "at", "sign"]
  d_word_end : Df K mg "word_end" st_word_end ["text", "at"]
  d_tree_at : Df K mg "tree_at" st_tree_at ["text", "at"]
  d_read : Df K mg "read" st_read ["text"]
  d__law_text : Df K mg "_law_text" st__law_text ["tree"]
  d__law_end : Df K mg "_law_end" st__law_end ["text", "at", "words"]
  d__law_is_right : Df K mg "_law_is_right" st__law_is_right ["text"]
  d__law_spoiled : Df K mg "_law_spoiled" st__law_spoiled ["script", "text", "keys"]
  d__law_refused_k16 : Df K mg "_law_refused" st__law_refused_k16 ["text"]
section
variable {P : Program} {w : World} {K : PySem.W.Frag} {mg : Str → Option Value} {base : Heap}
theorem sc_row_of : FnScope N_row_of ["tree"] (defScope st_row_of) := ⟨rfl, rfl, rfl, by decide +kernel, rfl, by decide +kernel, by decide +kernel⟩
theorem k_row_of (T : Tp K mg) : ∀ n, Kn P w K mg base CX0 n "row_of" .o (R_row_of n) := by
  have sc := sc_row_of
  refine kn_0 (fs := fun n => F_row_of (R_row_of n)) T.d_row_of sc (fun _ => rfl) (fun _ => rfl) fun n f hm ih cdv A outer s H E hr => ?_
  exact (ss_cons (ss_if (sb_cmp op_isN os_is (se_v 0) se_non (nomark _)) (ss_one (ss_rtO (so_lst sa_nil))) ss_nil)
  (ss_one (ss_rtO (so_op ox_cat oo_cat (SO.e (so_op ox_cat oo_cat (SO.e (so_call ih hr pass0 (sa_cons (se_ix ix_seq os_ix (se_v 0) se_int (fun _ _ => rfl)) sa_nil))) (SO.e (so_lst (sa_cons (se_ix ix_seq os_ix (se_v 0) se_int (fun _ _ => rfl)) sa_nil))))) (SO.e (so_call ih hr pass0 (sa_cons (se_ix ix_seq os_ix (se_v 0) se_int (fun _ _ => rfl)) sa_nil)))))))
theorem sc__law_cell_at : FnScope N__law_cell_at ["script", "k"] (defScope st__law_cell_at) := ⟨rfl, rfl, rfl, by decide +kernel, rfl, by decide +kernel, by decide +kernel⟩
theorem k__law_cell_at (T : Tp K mg) : ∀ n, Kn P w K mg base CX0 n "_law_cell_at" .e (R__law_cell_at n) := by
  have sc := sc__law_cell_at
  refine kn_0 (fs := fun n => F__law_cell_at) T.d__law_cell_at sc (fun _ => rfl) (fun _ => rfl) fun n f hm ih cdv A outer s H E hr => ?_
  exact (ss_cons (ss_if (sb_cmp ox_lt os_lt (se_v 1) (se_callB ox_len os_len T.n_len (by decide +kernel) (sa_cons (se_v 0) sa_nil)) (nomark _)) (ss_one (ss_rt (se_ix ix_seq os_ix (se_v 0) (se_v 1) (fun _ _ => rfl)))) ss_nil)
  (ss_one (ss_rt se_int)))
theorem sc__law_mix : FnScope N__law_mix ["cell", "k"] (defScope st__law_mix) := ⟨rfl, rfl, rfl, by decide +kernel, rfl, by decide +kernel, by decide +kernel⟩
theorem k__law_mix (T : Tp K mg) : ∀ n, Kn P w K mg base CX0 n "_law_mix" .e (R__law_mix n) := by
  have sc := sc__law_mix
  refine kn_0 (fs := fun n => F__law_mix) T.d__law_mix sc (fun _ => rfl) (fun _ => rfl) fun n f hm ih cdv A outer s H E hr => ?_
  exact (ss_cons (ss_as (ps_set (i := 2) sc.nd rfl (by first | exact Or.inl rfl | exact Or.inr rfl) (se_op op_mod os_mod (se_op ox_add os_add (se_op ox_add os_add (se_op op_mul os_mul (se_v 0) se_int) (se_op op_mul os_mul se_int (se_v 1))) se_int) se_int)))
  (ss_cons (ss_as (ps_set (i := 2) sc.nd rfl (by first | exact Or.inl rfl | exact Or.inr rfl) (se_op op_mod os_mod (se_op ox_add os_add (se_op ox_add os_add (se_op op_mul os_mul (se_v 2) (se_v 2)) (se_op op_mul os_mul se_int (se_v 1))) se_int) se_int)))
  (ss_one (ss_rt (se_op op_mod os_mod (se_op op_mul os_mul (se_v 2) (se_v 2)) se_int)))))
theorem sc__law_many : FnScope N__law_many ["cell", "most"] (defScope st__law_many) := ⟨rfl, rfl, rfl, by decide +kernel, rfl, by decide +kernel, by decide +kernel⟩
theorem k__law_many (T : Tp K mg) : ∀ n, Kn P w K mg base CX0 n "_law_many" .e (R__law_many n) := by
  have sc := sc__law_many
  refine kn_0 (fs := fun n => F__law_many) T.d__law_many sc (fun _ => rfl) (fun _ => rfl) fun n f hm ih cdv A outer s H E hr => ?_
  exact (ss_cons (ss_if (sb_cmp (ox_eq (Room.u64 hr)) os_eq (se_op op_mod os_mod (se_op op_fdiv os_div (se_v 0) se_int) se_int) se_int (nomark _)) (ss_one (ss_rt (se_op op_mod os_mod (se_op op_fdiv os_div (se_v 0) se_int) (se_op ox_add os_add (se_v 1) se_int)))) ss_nil)
  (ss_one (ss_rt (se_op op_mod os_mod (se_v 0) (se_callB (ox_min rfl) os_min T.n_min (by decide +kernel) (sa_cons se_int (sa_cons (se_op ox_add os_add (se_v 1) se_int) sa_nil)))))))
theorem sc__law_keys : FnScope N__law_keys ["script", "many"] (defScope st__law_keys) := ⟨rfl, rfl, rfl, by decide +kernel, rfl, by decide +kernel, by decide +kernel⟩
theorem k__law_keys (T : Tp K mg) : ∀ n, Kn P w K mg base CX0 n "_law_keys" .o (R__law_keys n) := by
  have sc := sc__law_keys
  refine kn_0 (fs := fun n => F__law_keys (R__law_cell_at n)) T.d__law_keys sc (fun _ => rfl) (fun _ => rfl) fun n f hm ih cdv A outer s H E hr => ?_
  have g__law_cell_at := k__law_cell_at (P := P) (w := w) (base := base) T n
  exact (ss_cons (ss_as (ps_set (i := 2) sc.nd rfl (by first | exact Or.inl rfl | exact Or.inr rfl) (se_call g__law_cell_at hr pass0 (sa_cons (se_v 0) (sa_cons se_int sa_nil)))))
  (ss_cons (ss_if (PW.pt (sw_and (sb_cmp (ox_eq (Room.u64 hr)) os_eq (se_op op_mod os_mod (se_op op_fdiv os_div (se_v 2) se_int) se_int) se_int (nomark _)) (sw_one (sb_cmp ox_le os_le (se_v 1) se_int (nomark _)) (by first | exact Or.inl rfl | exact Or.inr rfl)))) (ss_one (ss_rtO (so_lc  rfl sc.nd (src_rng1 T.n_range (se_v 1)) (blkOk_by (N := N__law_keys) (sc := (defScope st__law_keys)) (by decide +kernel)) (own := [("k", 4)]) (fun _ _ _ _ _ => pg_name (i := 4) sc.nd rfl (by first | exact Or.inl rfl | exact Or.inr rfl)) (fun _ _ _ _ _ => pts_yes) (fun _ _ _ _ _ => (se_slS (se_op ox_rep os_rep se_str se_int) so_n (so_s (se_op ox_add os_add (se_v 4) se_int)))) (List.mem_singleton.mpr rfl)))) ss_nil)
  (ss_cons (ss_nw (ps_set (i := 3) sc.nd rfl (by first | exact Or.inl rfl | exact Or.inr rfl) (so_lst sa_nil)))
  (ss_cons (ss_for PassesOwn.never rfl (src_rng1 T.n_range (se_v 1)) (pg_name (i := 4) sc.nd rfl (by first | exact Or.inl rfl | exact Or.inr rfl)) (tg_1 4) ne_gS1 (ss_cons (ss_as (ps_set (i := 5) sc.nd rfl (by first | exact Or.inl rfl | exact Or.inr rfl) (se_slS se_str so_n (so_s (se_op op_mod os_mod (se_call g__law_cell_at hr pass0 (sa_cons (se_v 0) (sa_cons (se_op ox_add os_add se_int (se_v 4)) sa_nil))) se_int)))))
  (ss_one (ss_ap (pv 3) (se_op ox_add os_add (se_op ox_add os_add (se_slS se_str so_n (so_s (se_op op_mod os_mod (se_v 2) se_int))) (se_ix ix_seq os_ix se_str (se_v 4) (fun _ _ => rfl))) (se_v 5))))))
  (ss_one (ss_rtV (pv 3)))))))
theorem sc__law_tree : FnScope N__law_tree ["keys", "cell", "first", "last"] (defScope st__law_tree) := ⟨rfl, rfl, rfl, by decide +kernel, rfl, by decide +kernel, by decide +kernel⟩
theorem k__law_tree (T : Tp K mg) : ∀ n, Kn P w K mg base CX0 n "_law_tree" .e (R__law_tree n) := by
  have sc := sc__law_tree
  refine kn_0 (fs := fun n => F__law_tree (R__law_tree n) (R__law_mix n)) T.d__law_tree sc (fun _ => rfl) (fun _ => rfl) fun n f hm ih cdv A outer s H E hr => ?_
  have g__law_mix := k__law_mix (P := P) (w := w) (base := base) T n
  exact (ss_cons (ss_if (sb_cmp (ox_eq (Room.u64 hr)) os_eq (se_v 2) (se_v 3) (nomark _)) (ss_one (ss_rt se_non)) ss_nil)
  (ss_cons (ss_as (ps_set (i := 4) sc.nd rfl (by first | exact Or.inl rfl | exact Or.inr rfl) (se_op ox_add os_add (se_v 2) (se_op op_mod os_mod (se_op op_fdiv os_div (se_call g__law_mix hr pass0 (sa_cons (se_v 1) (sa_cons (se_op ox_add os_add (se_op op_mul os_mul se_int (se_v 2)) (se_v 3)) sa_nil))) se_int) (se_op op_sub os_sub (se_v 3) (se_v 2))))))
  (ss_cons (ss_if (sb_cmp (ox_eq (Room.u64 hr)) os_eq (se_op op_mod os_mod (se_v 1) se_int) se_int (nomark _)) (ss_one (ss_as (ps_set (i := 4) sc.nd rfl (by first | exact Or.inl rfl | exact Or.inr rfl) (se_v 2)))) ss_nil)
  (ss_cons (ss_if (sb_cmp (ox_eq (Room.u64 hr)) os_eq (se_op op_mod os_mod (se_v 1) se_int) se_int (nomark _)) (ss_one (ss_as (ps_set (i := 4) sc.nd rfl (by first | exact Or.inl rfl | exact Or.inr rfl) (se_op op_sub os_sub (se_v 3) se_int)))) ss_nil)
  (ss_one (ss_rt (se_tup (sa_cons (se_ix ix_seq os_ix (se_v 0) (se_v 4) (fun _ _ => rfl)) (sa_cons (se_call ih hr pass0 (sa_cons (se_v 0) (sa_cons (se_v 1) (sa_cons (se_v 2) (sa_cons (se_v 4) sa_nil))))) (sa_cons (se_call ih hr pass0 (sa_cons (se_v 0) (sa_cons (se_v 1) (sa_cons (se_op ox_add os_add (se_v 4) se_int) (sa_cons (se_v 3) sa_nil))))) sa_nil))))))))))
theorem sc_is_word : FnScope N_is_word ["text"] (defScope st_is_word) := ⟨rfl, rfl, rfl, by decide +kernel, rfl, by decide +kernel, by decide +kernel⟩
theorem k_is_word (T : Tp K mg) : ∀ n, Kn P w K mg base CX0 n "is_word" .e (R_is_word n) := by
  have sc := sc_is_word
  obtain ⟨t_LETTERS, c_LETTERS⟩ := T.c_LETTERS
  obtain ⟨t_MOST_LETTERS, c_MOST_LETTERS⟩ := T.c_MOST_LETTERS
  refine kn_0 (fs := fun n => F_is_word) T.d_is_word sc (fun _ => rfl) (fun _ => rfl) fun n f hm ih cdv A outer s H E hr => ?_
  exact (ss_cons (ss_if (sb_not (sb_chain ox_le os_le ox_le os_le ne_opLe se_int (se_callB ox_len os_len T.n_len (by decide +kernel) (sa_cons (se_v 0) sa_nil)) (se_globI rfl c_MOST_LETTERS))) (ss_one (ss_rt se_bl)) ss_nil)
  (ss_one (ss_rt (se_callB (cr_all rfl) os_all T.n_all (by decide +kernel) (sa_cons (SO.e (so_lc  rfl sc.nd (src_str (se_v 0)) (blkOk_by (N := N_is_word) (sc := (defScope st_is_word)) (by decide +kernel)) (own := [("sign", 1)]) (fun _ _ _ _ _ => pg_name (i := 1) sc.nd rfl (by first | exact Or.inl rfl | exact Or.inr rfl)) (fun _ _ _ _ _ => pts_yes) (fun _ _ _ _ _ => (se_cmp ox_in os_in (se_v 1) (se_globS rfl c_LETTERS) (by with_unfolding_all rfl))) (List.mem_singleton.mpr rfl))) sa_nil)))))
theorem sc_are_keys : FnScope N_are_keys ["keys"] (defScope st_are_keys) := ⟨rfl, rfl, rfl, by decide +kernel, rfl, by decide +kernel, by decide +kernel⟩
theorem k_are_keys (T : Tp K mg) : ∀ n, Kn P w K mg base CX0 n "are_keys" .e (R_are_keys n) := by
  have sc := sc_are_keys
  obtain ⟨t_MOST_KEYS, c_MOST_KEYS⟩ := T.c_MOST_KEYS
  refine kn_0 (fs := fun n => F_are_keys (R_is_word n)) T.d_are_keys sc (fun _ => rfl) (fun _ => rfl) fun n f hm ih cdv A outer s H E hr => ?_
  have g_is_word := k_is_word (P := P) (w := w) (base := base) T n
  exact (ss_cons (ss_if (PW.pt (sw_or (sb_cmp ox_gt os_gt (se_callB ox_len os_len T.n_len (by decide +kernel) (sa_cons (se_v 0) sa_nil)) (se_globI rfl c_MOST_KEYS) (nomark _)) (sw_one (sb_not (sb_val (se_callB (cr_all rfl) os_all T.n_all (by decide +kernel) (sa_cons (SO.e (so_lc  rfl sc.nd (src_list (se_v 0)) (blkOk_by (N := N_are_keys) (sc := (defScope st_are_keys)) (by decide +kernel)) (own := [("key", 2)]) (fun _ _ _ _ _ => pg_name (i := 2) sc.nd rfl (by first | exact Or.inl rfl | exact Or.inr rfl)) (fun _ _ _ _ _ => pts_yes) (fun _ _ _ _ _ => (se_call g_is_word hr pass0 (sa_cons (se_v 2) sa_nil))) (List.mem_singleton.mpr rfl))) sa_nil)))) (by first | exact Or.inl rfl | exact Or.inr rfl)))) (ss_one (ss_rt se_bl)) ss_nil)
  (ss_one (ss_rt (se_callB (cr_all rfl) os_all T.n_all (by decide +kernel) (sa_cons (SO.e (so_lc  rfl sc.nd (src_rng2 T.n_range se_int (se_callB ox_len os_len T.n_len (by decide +kernel) (sa_cons (se_v 0) sa_nil))) (blkOk_by (N := N_are_keys) (sc := (defScope st_are_keys)) (by decide +kernel)) (own := [("k", 1)]) (fun _ _ _ _ _ => pg_name (i := 1) sc.nd rfl (by first | exact Or.inl rfl | exact Or.inr rfl)) (fun _ _ _ _ _ => pts_yes) (fun _ _ _ _ _ => (se_cmp ox_lt os_lt (se_ix ix_seq os_ix (se_v 0) (se_op op_sub os_sub (se_v 1) se_int) (fun _ _ => rfl)) (se_ix ix_seq os_ix (se_v 0) (se_v 1) (fun _ _ => rfl)) (nomark _))) (List.mem_singleton.mpr rfl))) sa_nil)))))
theorem sc_behind : FnScope N_behind ["text", "at", "sign"] (defScope st_behind) := ⟨rfl, rfl, rfl, by decide +kernel, rfl, by decide +kernel, by decide +kernel⟩
theorem k_behind (T : Tp K mg) : ∀ n, Kn P w K mg base (L2.CX P w) n "behind" .e (R_behind n) := by
  have sc := sc_behind
  obtain ⟨CP_BadText, gP_BadText, xP_BadText, kP_BadText, bP_BadText, tP_BadText⟩ := T.x_BadText.ex
  refine kn_X (fs := fun n => F_behind) T.d_behind sc (fun _ => rfl) (fun _ => rfl) fun n f hm ih cdv A outer s H E hr => ?_
  exact (ss_cons (ss_if (sb_cmp (ox_ne (Room.u64 hr)) os_ne (se_slS (se_v 0) (so_s (se_v 1)) (so_s (se_op ox_add os_add (se_v 1) se_int))) (se_v 2) (nomark _)) (ss_one (ss_raise rfl (takes_of rfl rfl rfl rfl) gP_BadText (pmk_own PySem.F.excBase_ValueError xP_BadText gP_BadText kP_BadText (raises_own bP_BadText tP_BadText) rfl))) ss_nil)
  (ss_one (ss_rt (se_op ox_add os_add (se_v 1) se_int))))
theorem sc_word_end : FnScope N_word_end ["text", "at"] (defScope st_word_end) := ⟨rfl, rfl, rfl, by decide +kernel, rfl, by decide +kernel, by decide +kernel⟩
theorem k_word_end (T : Tp K mg) : ∀ n, Kn P w K mg base CX0 n "word_end" .e (R_word_end n) := by
  have sc := sc_word_end
  obtain ⟨t_LETTERS, c_LETTERS⟩ := T.c_LETTERS
  refine kn_0 (fs := fun n => F_word_end) T.d_word_end sc (fun _ => rfl) (fun _ => rfl) fun n f hm ih cdv A outer s H E hr => ?_
  exact (ss_cons (ss_wh 1000 PassesOwn.never (PW.pt (sw_and (sb_cmp ox_lt os_lt (se_v 1) (se_callB ox_len os_len T.n_len (by decide +kernel) (sa_cons (se_v 0) sa_nil)) (nomark _)) (sw_one (sb_cmp ox_in os_in (se_ix ix_seq os_ix (se_v 0) (se_v 1) (fun _ _ => rfl)) (se_globS rfl c_LETTERS) (by with_unfolding_all rfl)) (by first | exact Or.inl rfl | exact Or.inr rfl)))) (ss_one (ss_as (ps_set (i := 1) sc.nd rfl (by first | exact Or.inl rfl | exact Or.inr rfl) (se_op ox_add os_add (se_v 1) se_int)))))
  (ss_one (ss_rt (se_v 1))))
theorem sc_tree_at : FnScope N_tree_at ["text", "at"] (defScope st_tree_at) := ⟨rfl, rfl, rfl, by decide +kernel, rfl, by decide +kernel, by decide +kernel⟩
theorem k_tree_at (T : Tp K mg) : ∀ n, Kn P w K mg base (L2.CX P w) n "tree_at" .e (R_tree_at n) := by
  have sc := sc_tree_at
  refine kn_X (fs := fun n => F_tree_at (R_tree_at n) (R_behind n) (R_word_end n)) T.d_tree_at sc (fun _ => rfl) (fun _ => rfl) fun n f hm ih cdv A outer s H E hr => ?_
  have g_behind := k_behind (P := P) (w := w) (base := base) T n
  have g_word_end := k_word_end (P := P) (w := w) (base := base) T n
  exact (ss_cons (ss_if (sb_cmp (ox_eq (Room.u64 hr)) os_eq (se_slS (se_v 0) (so_s (se_v 1)) (so_s (se_op ox_add os_add (se_v 1) se_int))) se_str (nomark _)) (ss_one (ss_rt (se_tup (sa_cons se_non (sa_cons (se_op ox_add os_add (se_v 1) se_int) sa_nil))))) ss_nil)
  (ss_cons (ss_as (ps_set (i := 2) sc.nd rfl (by first | exact Or.inl rfl | exact Or.inr rfl) (se_call ih hr (passes_call (takes_of rfl rfl rfl rfl) (fun _ _ _ _ h => h)) (sa_cons (se_v 0) (sa_cons (se_call g_behind hr (passes_call (takes_of rfl rfl rfl rfl) (fun _ _ _ _ h => h)) (sa_cons (se_v 0) (sa_cons (se_v 1) (sa_cons se_str sa_nil)))) sa_nil)))))
  (ss_cons (ss_as (ps_set (i := 3) sc.nd rfl (by first | exact Or.inl rfl | exact Or.inr rfl) (se_call g_behind hr (passes_call (takes_of rfl rfl rfl rfl) (fun _ _ _ _ h => h)) (sa_cons (se_v 0) (sa_cons (se_ix ix_seq os_ix (se_v 2) se_int (fun _ _ => rfl)) (sa_cons se_str sa_nil))))))
  (ss_cons (ss_as (ps_set (i := 4) sc.nd rfl (by first | exact Or.inl rfl | exact Or.inr rfl) (se_call g_word_end hr pass0 (sa_cons (se_v 0) (sa_cons (se_v 3) sa_nil)))))
  (ss_cons (ss_as (ps_set (i := 5) sc.nd rfl (by first | exact Or.inl rfl | exact Or.inr rfl) (se_call ih hr (passes_call (takes_of rfl rfl rfl rfl) (fun _ _ _ _ h => h)) (sa_cons (se_v 0) (sa_cons (se_call g_behind hr (passes_call (takes_of rfl rfl rfl rfl) (fun _ _ _ _ h => h)) (sa_cons (se_v 0) (sa_cons (se_v 4) (sa_cons se_str sa_nil)))) sa_nil)))))
  (ss_one (ss_rt (se_tup (sa_cons (se_tup (sa_cons (se_slS (se_v 0) (so_s (se_v 3)) (so_s (se_v 4))) (sa_cons (se_ix ix_seq os_ix (se_v 2) se_int (fun _ _ => rfl)) (sa_cons (se_ix ix_seq os_ix (se_v 5) se_int (fun _ _ => rfl)) sa_nil)))) (sa_cons (se_call g_behind hr (passes_call (takes_of rfl rfl rfl rfl) (fun _ _ _ _ h => h)) (sa_cons (se_v 0) (sa_cons (se_ix ix_seq os_ix (se_v 5) se_int (fun _ _ => rfl)) (sa_cons se_str sa_nil)))) sa_nil))))))))))
theorem sc_read : FnScope N_read ["text"] (defScope st_read) := ⟨rfl, rfl, rfl, by decide +kernel, rfl, by decide +kernel, by decide +kernel⟩
theorem k_read (T : Tp K mg) : ∀ n, Kn P w K mg base (L2.CX P w) n "read" .e (R_read n) := by
  have sc := sc_read
  obtain ⟨CP_BadText, gP_BadText, xP_BadText, kP_BadText, bP_BadText, tP_BadText⟩ := T.x_BadText.ex
  refine kn_X (fs := fun n => F_read (R_tree_at n) (R_are_keys n) (R_row_of n)) T.d_read sc (fun _ => rfl) (fun _ => rfl) fun n f hm ih cdv A outer s H E hr => ?_
  have g_tree_at := k_tree_at (P := P) (w := w) (base := base) T n
  have g_are_keys := k_are_keys (P := P) (w := w) (base := base) T n
  have g_row_of := k_row_of (P := P) (w := w) (base := base) T n
  exact (ss_cons (ss_as (ps_set (i := 1) sc.nd rfl (by first | exact Or.inl rfl | exact Or.inr rfl) (se_call g_tree_at hr (passes_call (takes_of rfl rfl rfl rfl) (fun _ _ _ _ h => h)) (sa_cons (se_v 0) (sa_cons se_int sa_nil)))))
  (ss_cons (ss_if (PW.pt (sw_or (sb_cmp (ox_ne (Room.u64 hr)) os_ne (se_ix ix_seq os_ix (se_v 1) se_int (fun _ _ => rfl)) (se_callB ox_len os_len T.n_len (by decide +kernel) (sa_cons (se_v 0) sa_nil)) (nomark _)) (sw_one (sb_not (sb_val (se_call g_are_keys hr pass0 (sa_cons (SO.e (so_call g_row_of hr pass0 (sa_cons (se_ix ix_seq os_ix (se_v 1) se_int (fun _ _ => rfl)) sa_nil))) sa_nil)))) (by first | exact Or.inl rfl | exact Or.inr rfl)))) (ss_one (ss_raise rfl (takes_of rfl rfl rfl rfl) gP_BadText (pmk_own PySem.F.excBase_ValueError xP_BadText gP_BadText kP_BadText (raises_own bP_BadText tP_BadText) rfl))) ss_nil)
  (ss_one (ss_rt (se_ix ix_seq os_ix (se_v 1) se_int (fun _ _ => rfl))))))
theorem sc__law_text : FnScope N__law_text ["tree"] (defScope st__law_text) := ⟨rfl, rfl, rfl, by decide +kernel, rfl, by decide +kernel, by decide +kernel⟩
theorem k__law_text (T : Tp K mg) : ∀ n, Kn P w K mg base CX0 n "_law_text" .e (R__law_text n) := by
  have sc := sc__law_text
  refine kn_0 (fs := fun n => F__law_text (R__law_text n)) T.d__law_text sc (fun _ => rfl) (fun _ => rfl) fun n f hm ih cdv A outer s H E hr => ?_
  exact (ss_cons (ss_if (sb_cmp op_isN os_is (se_v 0) se_non (nomark _)) (ss_one (ss_rt se_str)) ss_nil)
  (ss_one (ss_rt (se_op ox_add os_add (se_op ox_add os_add (se_op ox_add os_add (se_op ox_add os_add (se_op ox_add os_add (se_op ox_add os_add se_str (se_call ih hr pass0 (sa_cons (se_ix ix_seq os_ix (se_v 0) se_int (fun _ _ => rfl)) sa_nil))) se_str) (se_ix ix_seq os_ix (se_v 0) se_int (fun _ _ => rfl))) se_str) (se_call ih hr pass0 (sa_cons (se_ix ix_seq os_ix (se_v 0) se_int (fun _ _ => rfl)) sa_nil))) se_str))))
def N__law_end : List Str := ["text", "at", "words", "end"]
theorem sc__law_end : FnScope N__law_end ["text", "at", "words"] (defScope st__law_end) := ⟨rfl, rfl, rfl, by decide +kernel, rfl, by decide +kernel, by decide +kernel⟩
theorem k__law_end (T : Tp K mg) : ∀ n, KnE P w K mg base n := by
  have sc := sc__law_end
  refine knE T.d__law_end sc rfl rfl fun n f hm ih cdv A outer s H E hr => ?_
  obtain ⟨f2, fd2, ps2, F, hmf, hkf, hbf⟩ := ih.ex
  exact (pss_cons (ps_if (sb_cmp (ox_eq (Room.u64 hr)) os_eq (se_slS (se_v 0) (so_s (se_v 1)) (so_s (se_op ox_add os_add (se_v 1) se_int))) se_str (nomark _)) (pss_one (ps_ret (se_op ox_add os_add (se_v 1) se_int))) pss_nil)
  (pss_cons (ps_if (sb_cmp (ox_ne (Room.u64 hr)) os_ne (se_slS (se_v 0) (so_s (se_v 1)) (so_s (se_op ox_add os_add (se_v 1) se_int))) se_str (nomark _)) (pss_one (ps_ret (se_neg se_int))) pss_nil)
  (pss_cons (ps_set (i := 1) sc.nd rfl (by first | exact Or.inl rfl | exact Or.inr rfl) (pe_call F hr rfl hmf hkf hbf .nil pass0 (pa_cons (se_v 0) (pa_cons (se_op ox_add os_add (se_v 1) se_int) (pa_cons (pv 2) pa_nil)))))
  (pss_cons (ps_if (PW.pt (sw_or (sb_cmp ox_lt os_lt (se_v 1) se_int (nomark _)) (sw_one (sb_cmp (ox_ne (Room.u64 hr)) os_ne (se_slS (se_v 0) (so_s (se_v 1)) (so_s (se_op ox_add os_add (se_v 1) se_int))) se_str (nomark _)) (by first | exact Or.inl rfl | exact Or.inr rfl)))) (pss_one (ps_ret (se_neg se_int))) pss_nil)
  (pss_cons (ps_set (i := 3) sc.nd rfl (by first | exact Or.inl rfl | exact Or.inr rfl) (se_op ox_add os_add (se_v 1) se_int))
  (pss_cons (ps_while PassesOwn.never (PW.pt (sw_and (sb_cmp ox_lt os_lt (se_v 3) (se_callB ox_len os_len T.n_len (by decide +kernel) (sa_cons (se_v 0) sa_nil)) (nomark _)) (sw_one (sb_chain ox_le os_le ox_le os_le ne_opLe se_str (se_ix ix_seq os_ix (se_v 0) (se_v 3) (fun _ _ => rfl)) se_str) (by first | exact Or.inl rfl | exact Or.inr rfl)))) (pss_one (ps_set (i := 3) sc.nd rfl (by first | exact Or.inl rfl | exact Or.inr rfl) (se_op ox_add os_add (se_v 3) se_int))))
  (pss_cons (ps_expr (pe_bm PySem.F.plainAttrs_list PySem.F.slot_list_append PySem.F.type_list_append mt_append (pv 2) (pa_cons (se_slS (se_v 0) (so_s (se_op ox_add os_add (se_v 1) se_int)) (so_s (se_v 3))) pa_nil)))
  (pss_cons (ps_if (sb_cmp (ox_ne (Room.u64 hr)) os_ne (se_slS (se_v 0) (so_s (se_v 3)) (so_s (se_op ox_add os_add (se_v 3) se_int))) se_str (nomark _)) (pss_one (ps_ret (se_neg se_int))) pss_nil)
  (pss_cons (ps_set (i := 1) sc.nd rfl (by first | exact Or.inl rfl | exact Or.inr rfl) (pe_call F hr rfl hmf hkf hbf .nil pass0 (pa_cons (se_v 0) (pa_cons (se_op ox_add os_add (se_v 3) se_int) (pa_cons (pv 2) pa_nil)))))
  (pss_cons (ps_if (PW.pt (sw_or (sb_cmp ox_lt os_lt (se_v 1) se_int (nomark _)) (sw_one (sb_cmp (ox_ne (Room.u64 hr)) os_ne (se_slS (se_v 0) (so_s (se_v 1)) (so_s (se_op ox_add os_add (se_v 1) se_int))) se_str (nomark _)) (by first | exact Or.inl rfl | exact Or.inr rfl)))) (pss_one (ps_ret (se_neg se_int))) pss_nil)
  (pss_one (ps_ret (se_op ox_add os_add (se_v 1) se_int)))))))))))))
theorem sc__law_is_right : FnScope N__law_is_right ["text"] (defScope st__law_is_right) := ⟨rfl, rfl, rfl, by decide +kernel, rfl, by decide +kernel, by decide +kernel⟩
theorem k__law_is_right (T : Tp K mg) : ∀ n, Kn P w K mg base CX0 n "_law_is_right" .e (R__law_is_right n) := by
  have sc := sc__law_is_right
  refine kn_0 (fs := fun n => F__law_is_right (R__law_end n)) T.d__law_is_right sc (fun _ => rfl) (fun _ => rfl) fun n f hm ih cdv A outer s H E hr => ?_
  have g__law_end := k__law_end (P := P) (w := w) (base := base) T n
  exact (ss_cons (ss_nw (ps_set (i := 1) sc.nd rfl (by first | exact Or.inl rfl | exact Or.inr rfl) (so_lst sa_nil)))
  (ss_cons (ss_end (i := 0) (k := 1) g__law_end hr (by decide) (pv 0) (pv 0) (pv 1) (pv 1) T.n_len (by decide +kernel))
  (ss_cons (ss_if (sb_not (sb_val (se_callB (cr_all rfl) os_all T.n_all (by decide +kernel) (sa_cons (SO.e (so_lc  rfl sc.nd (src_list (se_v 1)) (blkOk_by (N := N__law_is_right) (sc := (defScope st__law_is_right)) (by decide +kernel)) (own := [("word", 3)]) (fun _ _ _ _ _ => pg_name (i := 3) sc.nd rfl (by first | exact Or.inl rfl | exact Or.inr rfl)) (fun _ _ _ _ _ => pts_yes) (fun _ _ _ _ _ => (se_chain ox_le os_le ox_le os_le ne_opLe se_int (se_callB ox_len os_len T.n_len (by decide +kernel) (sa_cons (se_v 3) sa_nil)) se_int)) (List.mem_singleton.mpr rfl))) sa_nil)))) (ss_one (ss_rt se_bl)) ss_nil)
  (ss_one (ss_rt (se_callB (cr_all rfl) os_all T.n_all (by decide +kernel) (sa_cons (SO.e (so_lc  rfl sc.nd (src_rng2 T.n_range se_int (se_callB ox_len os_len T.n_len (by decide +kernel) (sa_cons (se_v 1) sa_nil))) (blkOk_by (N := N__law_is_right) (sc := (defScope st__law_is_right)) (by decide +kernel)) (own := [("k", 2)]) (fun _ _ _ _ _ => pg_name (i := 2) sc.nd rfl (by first | exact Or.inl rfl | exact Or.inr rfl)) (fun _ _ _ _ _ => pts_yes) (fun _ _ _ _ _ => (se_cmp ox_lt os_lt (se_ix ix_seq os_ix (se_v 1) (se_op op_sub os_sub (se_v 2) se_int) (fun _ _ => rfl)) (se_ix ix_seq os_ix (se_v 1) (se_v 2) (fun _ _ => rfl)) (nomark _))) (List.mem_singleton.mpr rfl))) sa_nil)))))))
theorem sc__law_spoiled : FnScope N__law_spoiled ["script", "text", "keys"] (defScope st__law_spoiled) := ⟨rfl, rfl, rfl, by decide +kernel, rfl, by decide +kernel, by decide +kernel⟩
theorem k__law_spoiled (T : Tp K mg) : ∀ n, Kn P w K mg base CX0 n "_law_spoiled" .e (R__law_spoiled n) := by
  have sc := sc__law_spoiled
  refine kn_0 (fs := fun n => F__law_spoiled (R__law_cell_at n)) T.d__law_spoiled sc (fun _ => rfl) (fun _ => rfl) fun n f hm ih cdv A outer s H E hr => ?_
  have g__law_cell_at := k__law_cell_at (P := P) (w := w) (base := base) T n
  exact (ss_cons (ss_as (ps_set (i := 3) sc.nd rfl (by first | exact Or.inl rfl | exact Or.inr rfl) (se_ix ix_seq os_ix se_str (se_op op_mod os_mod (se_call g__law_cell_at hr pass0 (sa_cons (se_v 0) (sa_cons se_int sa_nil))) se_int) (fun _ _ => rfl))))
  (ss_cons (ss_as (ps_set (i := 4) sc.nd rfl (by first | exact Or.inl rfl | exact Or.inr rfl) (se_op op_mod os_mod (se_call g__law_cell_at hr pass0 (sa_cons (se_v 0) (sa_cons se_int sa_nil))) (se_op ox_add os_add (se_callB ox_len os_len T.n_len (by decide +kernel) (sa_cons (se_v 1) sa_nil)) se_int))))
  (ss_cons (ss_as (ps_set (i := 5) sc.nd rfl (by first | exact Or.inl rfl | exact Or.inr rfl) (se_op op_mod os_mod (se_call g__law_cell_at hr pass0 (sa_cons (se_v 0) (sa_cons se_int sa_nil))) se_int)))
  (ss_cons (ss_if (sb_cmp ox_lt os_lt (se_v 5) se_int (nomark _)) (ss_one (ss_rt (se_op ox_add os_add (se_op ox_add os_add (se_slS (se_v 1) so_n (so_s (se_v 4))) (se_ix ix_seq os_ix (SO.e (so_lst (sa_cons (se_v 3) (sa_cons (se_v 3) (sa_cons se_str sa_nil))))) (se_v 5) (fun _ _ => rfl))) (se_slS (se_v 1) (so_s (se_op ox_add os_add (se_v 4) (se_callT call_int1 os_int T.n_int (by decide +kernel) (sa_cons (se_cmp ox_gt os_gt (se_v 5) se_int (nomark _)) sa_nil)))) so_n)))) ss_nil)
  (ss_cons (ss_if (PW.pt (sw_and (sb_cmp (ox_eq (Room.u64 hr)) os_eq (se_v 5) se_int (nomark _)) (sw_one (sb_cmp ox_gt os_gt (se_callB ox_len os_len T.n_len (by decide +kernel) (sa_cons (se_v 2) sa_nil)) se_int (nomark _)) (by first | exact Or.inl rfl | exact Or.inr rfl)))) (ss_cons (ss_as (ps_set (i := 6) sc.nd rfl (by first | exact Or.inl rfl | exact Or.inr rfl) (se_op ox_add os_add se_int (se_op op_mod os_mod (se_call g__law_cell_at hr pass0 (sa_cons (se_v 0) (sa_cons se_int sa_nil))) (se_op op_sub os_sub (se_callB ox_len os_len T.n_len (by decide +kernel) (sa_cons (se_v 2) sa_nil)) se_int)))))
  (ss_one (ss_rt (se_repA (se_v 1) (se_ix ix_seq os_ix (se_v 2) (se_v 6) (fun _ _ => rfl)) (se_ix ix_seq os_ix (se_v 2) (se_op op_sub os_sub (se_v 6) se_int) (fun _ _ => rfl)))))) ss_nil)
  (ss_cons (ss_if (PW.pt (sw_and (sb_cmp (ox_eq (Room.u64 hr)) os_eq (se_v 5) se_int (nomark _)) (sw_one (sb_cmp ox_gt os_gt (se_callB ox_len os_len T.n_len (by decide +kernel) (sa_cons (se_v 2) sa_nil)) se_int (nomark _)) (by first | exact Or.inl rfl | exact Or.inr rfl)))) (ss_one (ss_rt (se_repA (se_v 1) (se_ix ix_seq os_ix (se_v 2) (se_neg se_int) (fun _ _ => rfl)) (se_slS se_str so_n (so_s (se_op ox_add os_add se_int (se_op op_mod os_mod (se_v 4) se_int))))))) ss_nil)
  (ss_cons (ss_if (sb_cmp (ox_eq (Room.u64 hr)) os_eq (se_v 5) se_int (nomark _)) (ss_cons (ss_as (PS.o2e (as_lc (k := 7)  rfl sc.nd rfl rfl (sw_true rfl rfl rfl (by decide +kernel)) (src_rng1 T.n_range (se_op ox_add os_add se_int (se_op op_mod os_mod (se_v 4) se_int))) (blkOk_by (N := N__law_spoiled) (sc := (defScope st__law_spoiled)) (by decide +kernel)) (own := [("k", 10)]) (fun _ _ _ _ _ => pg_name (i := 10) sc.nd rfl (by first | exact Or.inl rfl | exact Or.inr rfl)) (fun _ _ _ _ _ => pts_yes) (fun _ _ _ _ _ => (se_ix ix_seq os_ix se_str (se_v 10) (fun _ _ => rfl))) (List.mem_singleton.mpr rfl))))
  (ss_one (ss_rt (se_op ox_add os_add (se_op ox_add os_add (se_op ox_rep os_rep se_str (se_callB ox_len os_len T.n_len (by decide +kernel) (sa_cons (se_v 7) sa_nil))) (se_join se_str (se_v 7))) se_str)))) ss_nil)
  (ss_cons (ss_as (ps_set (i := 8) sc.nd rfl (by first | exact Or.inl rfl | exact Or.inr rfl) se_str))
  (ss_cons (ss_for PassesOwn.never rfl (src_str (se_slS se_str so_n (so_s (se_op ox_add os_add se_int (se_op op_mod os_mod (se_v 4) se_int))))) (pg_name (i := 9) sc.nd rfl (by first | exact Or.inl rfl | exact Or.inr rfl)) (tg_1 9) ne_gS1 (ss_one (ss_as (ps_set (i := 8) sc.nd rfl (by first | exact Or.inl rfl | exact Or.inr rfl) (se_op ox_add os_add (se_op ox_add os_add (se_op ox_add os_add (se_op ox_add os_add se_str (se_v 8)) se_str) (se_v 9)) se_str)))))
  (ss_one (ss_rt (se_v 8))))))))))))
theorem sc__law_refused_k16 : FnScope N__law_refused_k16 ["text"] (defScope st__law_refused_k16) := ⟨rfl, rfl, rfl, by decide +kernel, rfl, by decide +kernel, by decide +kernel⟩
theorem k__law_refused_k16 (T : Tp K mg) : ∀ n, Kn P w K mg base CX0 n "_law_refused" .e (R__law_refused_k16 n) := by
  have sc := sc__law_refused_k16
  obtain ⟨C_BadText, C_NoKeys, C_NoTree, C_SeekError, XS⟩ := T.xs
  refine kn_0 (fs := fun n => F__law_refused_k16 (R_read n)) T.d__law_refused_k16 sc (fun _ => rfl) (fun _ => rfl) fun n f hm ih cdv A outer s H E hr => ?_
  have g_read := k_read (P := P) (w := w) (base := base) T n
  exact (ss_cons (ss_as (ps_set (i := 1) sc.nd rfl (by first | exact Or.inl rfl | exact Or.inr rfl) se_bl))
  (ss_cons (ss_try (i := 2) sc.nd rfl rfl (fun W pn xe tk => by exact (su_one (su_call g_read hr tk (fun _ => (sa_cons (se_v 0) sa_nil))))) (by exact (.cons ⟨rfl, by decide, .inl XS.g_BadText⟩ (.cons XS.g_BadText XS.n_BadText XS.m_BadText_BadText ExY.nil) ExY.nil (fun _ _ => by exact (ss_cons (ss_as (ps_set (i := 1) sc.nd rfl (by first | exact Or.inl rfl | exact Or.inr rfl) (se_and (se_isx [("BadText", true)] (se_v 2) T.n_isinstance (pe_cls rfl XS.g_SeekError) (.own C_SeekError) ⟨⟨⟨_, XS.n_BadText, XS.e_BadText, XS.i_BadText_SeekError⟩⟩, trivial⟩ (by decide +kernel)) (se_one (se_isx [("BadText", true)] (se_v 2) T.n_isinstance (pe_bty rfl T.n_ValueError (by decide +kernel)) (.ty "ValueError") ⟨⟨⟨_, XS.n_BadText, XS.e_BadText, XS.i_BadText_ValueError⟩⟩, trivial⟩ (by decide +kernel))))))
  (ss_one (ss_as (ps_set (i := 1) sc.nd rfl (by first | exact Or.inl rfl | exact Or.inr rfl) (se_and (se_v 1) (se_and (se_not (se_isx [("BadText", false)] (se_v 2) T.n_isinstance (pe_cls rfl XS.g_NoKeys) (.own C_NoKeys) ⟨⟨⟨_, XS.n_BadText, XS.e_BadText, XS.i_BadText_NoKeys⟩⟩, trivial⟩ (by decide +kernel))) (se_one (se_not (se_isx [("BadText", false)] (se_v 2) T.n_isinstance (pe_cls rfl XS.g_NoTree) (.own C_NoTree) ⟨⟨⟨_, XS.n_BadText, XS.e_BadText, XS.i_BadText_NoTree⟩⟩, trivial⟩ (by decide +kernel))))))))))) .nil)))
  (ss_one (ss_rt (se_v 1)))))
theorem sc_law_k16 : FnScope N_law_k16 ["script"] (defScope st_law_k16) := ⟨rfl, rfl, rfl, by decide +kernel, rfl, by decide +kernel, by decide +kernel⟩
theorem k_law (T : Tp K mg) (n : Nat) {f : Addr} {fd : FuncData} (F : Fun K "law" "law" st_law_k16 f fd) : FnOk P w K mg base (L2.CX P w) (n + 1) f fd ["script"] (spF K mg .e (R_law_k16 (n + 1))) := by
  have sc := sc_law_k16
  refine fn_X (fs := (fun n => F_law_k16 (R__law_many n) (R__law_keys n) (R__law_text n) (R__law_spoiled n) (R__law_is_right n) (R__law_cell_at n) (R__law_tree n) (R__law_refused_k16 n) (R_read n)) n) F sc rfl fun cdv A outer s H E hr => ?_
  have g__law_many := k__law_many (P := P) (w := w) (base := base) T n
  have g__law_keys := k__law_keys (P := P) (w := w) (base := base) T n
  have g__law_text := k__law_text (P := P) (w := w) (base := base) T n
  have g__law_spoiled := k__law_spoiled (P := P) (w := w) (base := base) T n
  have g__law_is_right := k__law_is_right (P := P) (w := w) (base := base) T n
  have g__law_cell_at := k__law_cell_at (P := P) (w := w) (base := base) T n
  have g__law_tree := k__law_tree (P := P) (w := w) (base := base) T n
  have g__law_refused_k16 := k__law_refused_k16 (P := P) (w := w) (base := base) T n
  have g_read := k_read (P := P) (w := w) (base := base) T n
  exact (ss_cons (ss_as (ps_set (i := 1) sc.nd rfl (by first | exact Or.inl rfl | exact Or.inr rfl) (se_call g__law_many hr pass0 (sa_cons (se_call g__law_cell_at hr pass0 (sa_cons (se_v 0) (sa_cons se_int sa_nil))) (sa_cons se_int sa_nil)))))
  (ss_cons (ss_as (ps_set (i := 2) sc.nd rfl (by first | exact Or.inl rfl | exact Or.inr rfl) (SO.e (so_call g__law_keys hr pass0 (sa_cons (se_v 0) (sa_cons (se_v 1) sa_nil))))))
  (ss_cons (ss_as (ps_set (i := 3) sc.nd rfl (by first | exact Or.inl rfl | exact Or.inr rfl) (se_call g__law_text hr pass0 (sa_cons (se_call g__law_tree hr pass0 (sa_cons (se_v 2) (sa_cons (se_call g__law_cell_at hr pass0 (sa_cons (se_v 0) (sa_cons se_int sa_nil))) (sa_cons se_int (sa_cons (se_v 1) sa_nil))))) sa_nil))))
  (ss_cons (ss_as (ps_set (i := 4) sc.nd rfl (by first | exact Or.inl rfl | exact Or.inr rfl) (se_call g__law_spoiled hr pass0 (sa_cons (se_v 0) (sa_cons (se_v 3) (sa_cons (se_v 2) sa_nil))))))
  (ss_cons (ss_if (sb_val (se_call g__law_is_right hr pass0 (sa_cons (se_v 4) sa_nil))) (ss_one (ss_rt (se_cmp (ox_eq (Room.u64 hr)) os_eq (se_call g__law_text hr pass0 (sa_cons (se_call g_read hr (passes_call (takes_of rfl rfl rfl rfl) (fun _ _ _ _ h => h)) (sa_cons (se_v 4) sa_nil)) sa_nil)) (se_v 4) (nomark _)))) ss_nil)
  (ss_one (ss_rt (se_and (se_call g__law_refused_k16 hr pass0 (sa_cons (se_v 4) sa_nil)) (se_one (se_call g__law_refused_k16 hr pass0 (sa_cons (se_v 4) sa_nil)))))))))))
end
end k16
end Sk

namespace Sk
open PySem PySem.Spec PyProof.Rows L2
/-! exceptions, evaluated -/
section
variable {ev : Ev} {env : SEnv} {fe fo : Ev → Rs D} {fr : Ev → Rs (List D)} {fa fb : Ev → Rs Unit}
@[simp] theorem x_uC : uC fe ev = (fe ev).bind fun _ => .ok () := (rfl)
@[simp] theorem x_uS : uS fa fb ev = (fa ev).bind fun _ => fb ev := (rfl)
@[simp] theorem x_Try (i : Nat) (hs : List Hd) : sTry fb i hs env = match fb (allV env) with
  | .ok _ => .ok (.nx env)
  | .exc x => hndl i x env hs
  | .bad => .bad := (rfl)
@[simp] theorem x_hn (i : Nat) (x : String) : hndl i x env [] = .bad := (rfl)
@[simp] theorem x_hc (i : Nat) (x : String) (yes no : List String) (f : SEnv → Rs Fl) (r : List Hd) : hndl i x env ((yes, no, f) :: r) =
  if yes.contains x = true then (match f (env.set i (.sh (dE (Str.ofString x)))) with | .ok fl => .ok (clrE i fl) | _ => .bad) else if no.contains x = true then hndl i x env r else .bad := (rfl)
@[simp] theorem x_clr (i : Nat) (e : SEnv) : clrE i (.nx e) = .nx (e.set i .un) := (rfl)
@[simp] theorem x_Cnt : eCount fo fr ev = (fo ev).bind fun a => lstB a fun ds => (fr ev).bind fun r => opCount ds r := (rfl)
@[simp] theorem x_isX (tab : List (Str × Bool)) (z : Str) : opIsX tab (dE z) = rsB (lkp tab z) := (rfl)
@[simp] theorem x_lk0 (z : Str) : lkp [] z = none := (rfl)
@[simp] theorem x_lk1 (y z : Str) (b : Bool) (r : List (Str × Bool)) : lkp ((y, b) :: r) z = if z = y then some b else lkp r z := (rfl)
@[simp] theorem x_cntB (l : List Bool) (b : Bool) : opCount (l.map .bool) [.bool b] = .ok (.int (l.count b : Nat)) := by simp [opCount, boolsOf_map]
end
end Sk

namespace Sk
open PySem PySem.Spec PyProof.Rows L2
theorem isL_ok {w : Wd} (h : okWord w) : ∀ c ∈ w, isL c = true := fun c hc => decide_eq_true (h.2.2 c hc)
theorem text_bound : ∀ t : Tr, (∀ w ∈ rowT t, w.length ≤ 8) → (textT t).length ≤ 13 * sizeT t + 1
  | .nil, _ => by simp [textT]
  | .node k l r, h => by
    have h1 := text_bound l fun w hw => h w (by rw [row_split]; simp [hw])
    have h2 := text_bound r fun w hw => h w (by rw [row_split]; simp [hw])
    have h3 := h k (by rw [row_split]; simp)
    rw [text_len]
    simp only [sizeT]
    omega
theorem cnt_app (a b : Wd) : cnt (a ++ b) 0 = cnt a 0 + cnt b 0 := by simp [cnt]
theorem cnt_cons (c : Nat) (a : Wd) : cnt (c :: a) 0 = (if c = 40 then 1 else 0) + cnt a 0 := by
  unfold cnt
  rw [List.drop_zero, List.drop_zero, List.filter_cons]
  by_cases h : c = 40
  · simp [h]; omega
  · simp [h]
theorem cnt_word {k : Wd} (h : ∀ c ∈ k, isL c = true) : cnt k 0 = 0 := by
  unfold cnt
  rw [List.drop_zero, List.length_eq_zero_iff, List.filter_eq_nil_iff]
  intro c hc
  have := of_decide_eq_true (h c hc)
  simp
  omega
theorem cnt_text : ∀ t : Tr, (∀ w ∈ rowT t, ∀ c ∈ w, isL c = true) → cnt (textT t) 0 = sizeT t
  | .nil, _ => by simp [textT, cnt, sizeT]
  | .node k l r, h => by
    have h1 := cnt_text l fun w hw => h w (by rw [row_split]; simp [hw])
    have h2 := cnt_text r fun w hw => h w (by rw [row_split]; simp [hw])
    have h3 := cnt_word (h k (by rw [row_split]; simp))
    simp [textT, cnt_app, cnt_cons, h1, h2, h3, sizeT]
    simp [cnt]
    omega
theorem parse_own {t : Tr} {f : Nat} (h : hgt t < f) (hw : ∀ w ∈ rowT t, ∀ c ∈ w, isL c = true) : parse f (textT t) 0 = some (t, (textT t).length) := by
  have := parse_text t f [] [] h hw
  simpa using this
theorem r_shown (n : Nat) {ks : List Wd} {t : Tr} (hk : Keys ks) (hr : rowT t = ks) (hh : hgt t ≤ 12) (hs : (textT t).length ≤ 100000) (hn : 15 ≤ n) : R_shown n [dLS ks, dT t] = .ok (dS (textT t)) := by
  obtain ⟨n, rfl⟩ : ∃ k, n = k + 14 := ⟨n - 14, by omega⟩
  have e1 := ask_keys_ok (n + 10) hk
  have e2 := ask_tree_ok (n + 13) hk hr (by omega)
  have e3 := r_written t (n + 13) (by omega) hs
  simp [R_shown, F_shown, e1, e2, e3]
theorem pure_k15 (ns : List Int) (h : ns.length ≤ 63) : R_law_k15 60 [.list (ns.map .int)] = .ok (.bool true) := by
  obtain ⟨m, ks, hm, hm12, hks, hk, hl⟩ := start12 ns
  obtain ⟨t, ht, hr, hz, hh⟩ := tree0 59 m hl (by omega) (cellAt ns 42)
  have e0 : R__law_keys 59 [dLI ns, .int m] = .ok (dLS ks) := by rw [← hks]; exact r_keys 57 ns m (by omega) (by omega)
  have hw : ∀ w ∈ rowT t, ∀ c ∈ w, isL c = true := by rw [hr]; exact fun w h => isL_ok (hk.word w h)
  have tb := text_bound t (by rw [hr]; exact fun w h => (hk.word w h).2.1)
  have e1 := r_text t 59 (by omega) (by omega)
  have e2 := r_shown 59 hk hr (by omega) (by omega) (by omega)
  have e3 := r_read (textT t) (by omega) 57 (by rw [cnt_text t hw]; omega)
  rw [parse_own (by omega) hw] at e3
  have kb : keysB (rowT t) = true := by rw [hr]; exact (keysB_iff ks).mpr hk
  simp only [outR, kb, and_self, if_true] at e3
  have e4 := r_is_tree t 59 (by omega) (by rw [hr]; exact nodup_of_srt hk.srt) (by rw [hr]; exact hk.oks)
  rw [hr] at e4
  have s1 := ne_self hk.shL
  have s2 := eq_self (sh_T (t := t) (by unfold okT; rw [hr]; exact hk.oks) (by omega))
  show R_law_k15 60 [dLI ns] = _
  simp [R_law_k15, F_law_k15, r_cell, r_many, hm, hm12, e0, ht, e1, e2, s1, e3, e4, s2]
end Sk

namespace Sk
open PySem PySem.Spec PyProof.Rows L2
/-! ### what is replaced: sums of signs -/
structure Add (μ : Wd → Nat) : Prop where
  nil : μ [] = 0
  app : ∀ a b, μ (a ++ b) = μ a + μ b
def tl (s : Str) : Wd := s.cps.toList
theorem tl_app (a b : Str) : tl (a ++ b) = tl a ++ tl b := by
  show (a.cps ++ b.cps).toList = _
  simp [tl]
theorem join_mu {μ : Wd → Nat} (h : Add μ) (sep : Str) : ∀ parts : List Str, parts ≠ [] → μ (tl (Str.join sep parts)) + μ (tl sep) = (parts.map fun p => μ (tl p)).sum + parts.length * μ (tl sep)
  | [], h => absurd rfl h
  | [x], _ => by simp [Str.join]
  | x :: y :: r, _ => by
    have ih := join_mu h sep (y :: r) (by simp)
    have e : Str.join sep (x :: y :: r) = x ++ sep ++ Str.join sep (y :: r) := rfl
    rw [e, tl_app, tl_app, h.app, h.app]
    simp only [List.map_cons, List.sum_cons, List.length_cons, Nat.add_mul, Nat.one_mul] at ih ⊢
    omega
theorem repl_mu {μ ν : Wd → Nat} (h : Add μ) (h' : Add ν) (x y z : Str) : (tl (Txt.replace x y z) = tl x) ∨ ∃ k S T, μ (tl x) = S + k * μ (tl y) ∧ μ (tl (Txt.replace x y z)) = S + k * μ (tl z) ∧ ν (tl x) = T + k * ν (tl y) ∧ ν (tl (Txt.replace x y z)) = T + k * ν (tl z) := by
  unfold Txt.replace
  split
  · exact .inl rfl
  · refine .inr ?_
    have gs := StrLaws.glued_between_self x y (x.length + 1)
    have ln := length_partsBetween x (Builtin.Str.occurrences x y 0 x.length (x.length + 1)) y.length
    generalize Builtin.Str.partsBetween x (Builtin.Str.occurrences x y 0 x.length (x.length + 1)) y.length = parts at gs ln ⊢
    have ne : parts ≠ [] := fun e => by rw [e] at ln; simp at ln
    rw [StrLaws.glued_eq_join] at gs ⊢
    have j1 := join_mu h y parts ne
    have j2 := join_mu h z parts ne
    have j3 := join_mu h' y parts ne
    have j4 := join_mu h' z parts ne
    rw [gs] at j1 j3
    rw [ln, Nat.add_mul, Nat.one_mul] at j1 j2 j3 j4
    exact ⟨(Builtin.Str.occurrences x y 0 x.length (x.length + 1)).length, (parts.map fun p => μ (tl p)).sum, (parts.map fun p => ν (tl p)).sum, by omega, by omega, by omega, by omega⟩
def cntC (c : Nat) (l : Wd) : Nat := (l.filter fun d => decide (d = c)).length
theorem add_cnt (c : Nat) : Add (cntC c) := ⟨rfl, fun a b => by simp [cntC]⟩
theorem add_len : Add List.length := ⟨rfl, fun a b => List.length_append⟩
theorem cnt_C (l : Wd) : cnt l 0 = cntC 40 l := by simp [cnt, cntC]
theorem repl_ok {x y z : Wd} (hy : 1 ≤ cntC 32 y) (y40 : cntC 40 y = 0) (z40 : cntC 40 z = 0) : ∃ r : Wd, Txt.replace ⟨x.toArray⟩ ⟨y.toArray⟩ ⟨z.toArray⟩ = ⟨r.toArray⟩ ∧ r.length ≤ x.length + cntC 32 x * z.length ∧ cntC 40 r = cntC 40 x := by
  obtain ⟨r, hr⟩ : ∃ r : Wd, Txt.replace ⟨x.toArray⟩ ⟨y.toArray⟩ ⟨z.toArray⟩ = ⟨r.toArray⟩ := ⟨(Txt.replace ⟨x.toArray⟩ ⟨y.toArray⟩ ⟨z.toArray⟩).cps.toList, by simp⟩
  refine ⟨r, hr, ?_⟩
  have tx : ∀ w : Wd, tl ⟨w.toArray⟩ = w := fun w => by simp [tl]
  have m1 := repl_mu add_len (add_cnt 32) ⟨x.toArray⟩ ⟨y.toArray⟩ ⟨z.toArray⟩
  have m2 := repl_mu (add_cnt 40) (add_cnt 32) ⟨x.toArray⟩ ⟨y.toArray⟩ ⟨z.toArray⟩
  rw [hr] at m1 m2
  simp only [tx] at m1 m2
  constructor
  · rcases m1 with e | ⟨k, S, T, h1, h2, h3, h4⟩
    · rw [e]; omega
    · have hk : k ≤ cntC 32 x := by
        have : k * 1 ≤ k * cntC 32 y := Nat.mul_le_mul_left k hy
        omega
      have : k * z.length ≤ cntC 32 x * z.length := Nat.mul_le_mul_right _ hk
      omega
  · rcases m2 with e | ⟨k, S, T, h1, h2, h3, h4⟩
    · rw [e]
    · rw [y40] at h1
      rw [z40] at h2
      omega
/-! ### parse and endW -/
theorem endW_parse : ∀ (f : Nat) (x : Wd) (a : Nat), endW f x a = (parse f x a).map fun r => (r.2, rowT r.1)
  | 0, x, a => rfl
  | f + 1, x, a => by
    unfold endW parse
    by_cases c1 : x[a]? = some 45
    · rw [if_pos c1, if_pos c1]; rfl
    · rw [if_neg c1, if_neg c1]
      by_cases c2 : x[a]? = some 40
      · rw [if_pos c2, if_pos c2, endW_parse f x (a + 1)]
        cases hl : parse f x (a + 1) with
        | none => rfl
        | some l =>
          simp only [Option.map_some, Option.bind_some]
          by_cases c3 : x[l.2]? = some 32
          · rw [if_pos c3, if_pos c3]
            by_cases c4 : x[wend x (l.2 + 1)]? = some 32
            · rw [if_pos c4, if_pos (show x[wnd x (l.2 + 1)]? = some 32 from c4), endW_parse f x _]
              show ((parse f x (wend x (l.2 + 1) + 1)).map fun r => (r.2, rowT r.1)).bind _ = _
              cases hr : parse f x (wend x (l.2 + 1) + 1) with
              | none => rfl
              | some r =>
                simp only [Option.map_some, Option.bind_some]
                by_cases c5 : x[r.2]? = some 41
                · rw [if_pos c5, if_pos c5]
                  simp only [Option.map_some, row_split]
                  rfl
                · rw [if_neg c5, if_neg c5]; rfl
            · rw [if_neg c4, if_neg (show ¬ x[wnd x (l.2 + 1)]? = some 32 from c4)]; rfl
          · rw [if_neg c3, if_neg c3]; rfl
      · rw [if_neg c2, if_neg c2]; rfl
theorem parse_fuel : ∀ (f : Nat) (x : Wd) (a : Nat), cnt x a < f → ∀ k, parse (f + k) x a = parse f x a
  | 0, x, a, h, k => by omega
  | f + 1, x, a, h, k => by
    rw [show f + 1 + k = (f + k) + 1 by omega]
    by_cases c1 : x[a]? = some 45
    · simp [parse, c1]
    · by_cases c2 : x[a]? = some 40
      · have hlt := cnt_open x a c2
        have i1 := parse_fuel f x (a + 1) (by omega) k
        cases hl : parse f x (a + 1) with
        | none => simp [parse, c2, i1, hl]
        | some l =>
          have pa := parse_at f x _ _ hl
          have h9 : l.2 + 1 ≤ wend x (l.2 + 1) := Nat.le_add_right _ _
          have cl := cnt_le x (show a + 1 ≤ wend x (l.2 + 1) + 1 by omega)
          have i2 := parse_fuel f x (wend x (l.2 + 1) + 1) (by omega) k
          simp [parse, c2, i1, hl, i2]
      · simp [parse, c1, c2]
theorem drop_get {x : Wd} {a c : Nat} (h : x[a]? = some c) : x.drop a = c :: x.drop (a + 1) := by
  obtain ⟨h1, h2⟩ := List.getElem?_eq_some_iff.mp h
  rw [List.drop_eq_getElem_cons h1, h2]
theorem drop_word (x : Wd) (s : Nat) : x.drop s = (x.drop s).takeWhile isL ++ x.drop (wend x s) := by
  have e : ∀ l : Wd, l = l.takeWhile isL ++ l.drop (l.takeWhile isL).length := fun l => by
    induction l with
    | nil => rfl
    | cons c l ih =>
      rw [List.takeWhile_cons]
      split
      · rw [List.cons_append, List.length_cons, List.drop_succ_cons, ← ih]
      · simp
  have h := e (x.drop s)
  rw [List.drop_drop] at h
  exact h
theorem tw_all {p : Nat → Bool} : ∀ (l : Wd), ∀ c ∈ l.takeWhile p, p c = true
  | [], c, h => by simp at h
  | d :: l, c, h => by
    rw [List.takeWhile_cons] at h
    split at h
    · rename_i hd
      rcases List.mem_cons.mp h with rfl | h
      · exact hd
      · exact tw_all l c h
    · simp at h
theorem parse_back : ∀ (f : Nat) (x : Wd) (a : Nat) (r : Tr × Nat), parse f x a = some r → x.drop a = textT r.1 ++ x.drop r.2 ∧ ∀ w ∈ rowT r.1, ∀ c ∈ w, isL c = true
  | 0, _, _, _, h => by simp [parse] at h
  | f + 1, x, a, r, h => by
    unfold parse at h
    split at h
    · rename_i h1
      cases h
      exact ⟨by rw [drop_get h1]; rfl, by simp [rowT]⟩
    · split at h
      · rename_i h2
        obtain ⟨l, hl, h⟩ := Option.bind_eq_some_iff.mp h
        split at h
        · rename_i h3
          split at h
          · rename_i h4
            obtain ⟨q, hq, h⟩ := Option.bind_eq_some_iff.mp h
            split at h
            · rename_i h5
              obtain ⟨i1, i2⟩ := parse_back f x _ _ hl
              obtain ⟨j1, j2⟩ := parse_back f x _ _ hq
              cases h
              refine ⟨?_, fun w hw => ?_⟩
              · have dw := drop_word x (l.2 + 1)
                rw [drop_get h4, j1, drop_get h5] at dw
                generalize (x.drop (l.2 + 1)).takeWhile isL = K at dw ⊢
                rw [drop_get h2, i1, drop_get h3, dw]
                simp [textT]
              · rw [row_split] at hw
                simp only [List.mem_append, List.mem_cons] at hw
                rcases hw with hw | rfl | hw
                · exact i2 w hw
                · intro c hc
                  exact tw_all _ c hc
                · exact j2 w hw
            · cases h
          · cases h
        · cases h
      · cases h
/-! ### what the law asks: is it right -/
def rightB (f : Nat) (x : Wd) : Bool := match parse f x 0 with
  | some r => decide (r.2 = x.length) && keysB (rowT r.1)
  | none => false
theorem r_end (n : Nat) (x : Wd) (hx : x.length ≤ 900) (hc : cnt x 0 < n) : R__law_end n [.str ⟨x.toArray⟩, .int 0] = .ok (endD ((parse n x 0).map fun r => (r.2, rowT r.1))) := by
  have c : (⟨x.toArray⟩ : Str).length ≤ 900 ∧ (0 : Int) ≤ 0 ∧ (0 : Int) ≤ (⟨x.toArray⟩ : Str).length ∧ ctO (⟨x.toArray⟩ : Str).cps.toList (0 : Int).toNat < n := ⟨by simpa [Str.length] using hx, Int.le_refl _, by omega, by simpa [ctO, cnt] using hc⟩
  show (if (⟨x.toArray⟩ : Str).length ≤ 900 ∧ (0 : Int) ≤ 0 ∧ (0 : Int) ≤ (⟨x.toArray⟩ : Str).length ∧ ctO (⟨x.toArray⟩ : Str).cps.toList (0 : Int).toNat < n then Rs.ok (endD (endW n (⟨x.toArray⟩ : Str).cps.toList (0 : Int).toNat)) else .bad) = _
  rw [if_pos c]
  congr 2
  rw [show (0 : Int).toNat = 0 from rfl, ← endW_parse]
def lenOk (w : Wd) : Bool := decide (1 ≤ w.length) && decide (w.length ≤ 8)
def adjB (ks : List Wd) : Bool := (List.range (ks.length - 1)).all fun k => decide (ks.getD k [] < ks.getD (k + 1) [])
theorem keysB_L {ks : List Wd} (h : ∀ w ∈ ks, ∀ c ∈ w, isL c = true) : keysB ks = (decide (ks.length ≤ 12) && ks.all lenOk && adjB ks) := by
  unfold keysB adjB
  congr 2
  rw [Bool.eq_iff_iff, List.all_eq_true, List.all_eq_true]
  have e : ∀ w ∈ ks, wordB w = lenOk w := fun w hw => by
    have : w.all isL = true := List.all_eq_true.mpr (h w hw)
    simp [wordB, lenOk, this]
  exact ⟨fun q w hw => by rw [← e w hw]; exact q w hw, fun q w hw => by rw [e w hw]; exact q w hw⟩
theorem adj_lc (ks : List Wd) (hl : ks.length ≤ 12) : mapF (fun _ => .ok true) (fun d => ((opSub d (.int 1)).bind fun b => opIx (dLS ks) b).bind fun a => (opIx (dLS ks) d).bind fun b => opLt a b) ((List.range (ks.length - 1)).map fun k : Nat => .int (1 + (k : Int))) =
    .ok ((List.range (ks.length - 1)).map fun k => PyData.bool (decide (ks.getD k [] < ks.getD (k + 1) []))) := by
  refine mapF_all (fun k : Nat => PyData.int (1 + (k : Int))) (fun k => PyData.bool (decide (ks.getD k [] < ks.getD (k + 1) []))) _ fun k hk => ?_
  rw [List.mem_range] at hk
  have a1 : k < ks.length := by omega
  have a2 : k + 1 < ks.length := by omega
  have z1 : (1 : Int) + k - 1 = k := by omega
  have z2 : ((1 : Int) + k).toNat = k + 1 := by omega
  simp only [o_sub, ok_bind', z1, dLS_ix]
  rw [atI_nat (by omega), atI_nat (by omega), z2, Int.toNat_natCast, List.getElem?_eq_getElem a1, List.getElem?_eq_getElem a2]
  simp [a1, a2]
theorem send (n : Nat) (x : Wd) (hx : x.length ≤ 900) (hc : cnt x 0 < n) : sEnd 0 1 (R__law_end n) [.sh (dS x), .ow (.list []), .un, .un] = match parse n x 0 with
    | some r => if r.2 = x.length ∧ (rowT r.1).length ≤ 12 then .ok (.nx [.sh (dS x), .ow (dLS (rowT r.1)), .un, .un]) else .ok (.rt (.bool false))
    | none => .ok (.rt (.bool false)) := by
  have e := r_end n x hx hc
  have un : sEnd 0 1 (R__law_end n) [.sh (dS x), .ow (.list []), .un, .un] = (R__law_end n [.str ⟨x.toArray⟩, .int 0]).bind fun d => (match d with
    | .tuple [.int e, .list ds] => if e = (⟨x.toArray⟩ : Str).length ∧ ds.length ≤ 12 then .ok (.nx [.sh (dS x), .ow (.list ds), .un, .un]) else .ok (.rt (.bool false))
    | _ => .bad) := rfl
  rw [un, e]
  cases hp : parse n x 0 with
  | none =>
    have ne : ¬ ((-1 : Int) = ((⟨x.toArray⟩ : Str).length : Int)) := by omega
    simp only [Option.map_none, endD, ok_bind', ne, false_and, if_false]
  | some r =>
    simp only [Option.map_some, endD, ok_bind', List.length_map]
    have xl : ((r.2 : Int) = ((⟨x.toArray⟩ : Str).length : Int)) ↔ r.2 = x.length := by simp [Str.length]; omega
    by_cases c : r.2 = x.length ∧ (rowT r.1).length ≤ 12
    · rw [if_pos ⟨xl.mpr c.1, c.2⟩, if_pos c]; rfl
    · rw [if_neg (fun z => c ⟨xl.mp z.1, z.2⟩), if_neg c]
theorem r_is_right (n : Nat) (x : Wd) (hx : x.length ≤ 900) (hc : cnt x 0 < n) : R__law_is_right (n + 1) [dS x] = .ok (.bool (rightB n x)) := by
  have st : ∀ ds, R__law_is_right (n + 1) ds = fnOf 4 1 .e (F__law_is_right (R__law_end n)) ds := fun _ => rfl
  rw [st]
  have sd := send n x hx hc
  cases hp : parse n x 0 with
  | none =>
    rw [hp] at sd
    simp only at sd
    simp [F__law_is_right, sd, rightB, hp]
  | some r =>
    obtain ⟨t, b⟩ := r
    rw [hp] at sd
    simp only at sd
    have lt := (parse_back n x 0 _ hp).2
    have kl := keysB_L lt
    obtain ⟨s1, s2, s3⟩ := parse_sz n x 0 _ hp
    simp only at lt kl s3
    by_cases c1 : b = x.length
    · by_cases c2 : (rowT t).length ≤ 12
      · rw [if_pos ⟨c1, c2⟩] at sd
        have lens : ∀ w ∈ rowT t, w.length ≤ 100000 := fun w hw => by have := s3 w hw; omega
        have m1 : ∀ ev : Ev, mapF (fun _ => .ok true) (fun d => (opLen [d]).bind fun b => (opLe (.int 1) b).bind fun z => (asB z).bind fun k => if k = true then opLe b (.int 8) else .ok (.bool false)) ((rowT t).map dS) = .ok ((rowT t).map fun w => .bool (lenOk w)) := fun ev => by
          refine mapF_all dS (fun w => PyData.bool (lenOk w)) (rowT t) fun w hw => ?_
          have l := lens w hw
          by_cases d1 : 1 ≤ w.length
          · have d1' : (1 : Int) ≤ w.length := by omega
            have nn : w ≠ [] := fun z => by subst z; simp at d1
            by_cases d2 : w.length ≤ 8
            · have d2' : (w.length : Int) ≤ 8 := by omega
              simp [l, lenOk, d1, d2, d1', d2', nn]
            · have d2' : ¬ (w.length : Int) ≤ 8 := by omega
              simp [l, lenOk, d1, d2, d1', d2', nn]
          · have d1' : ¬ (1 : Int) ≤ w.length := by omega
            simp [l, lenOk, d1, d1']
        replace m1 := m1 []
        have a1 := all_dLB ((rowT t).map lenOk)
        rw [List.map_map, List.all_map] at a1
        simp only [Function.comp_def, id] at a1
        have rg : rng2 (.int 1) (.int (rowT t).length) = .ok ((List.range ((rowT t).length - 1)).map fun k : Nat => .int (1 + (k : Int))) := by
          rw [rng2_eq _ _ (by omega)]
          congr 3
          omega
        have m2 := adj_lc (rowT t) c2
        have a2 := all_dLB ((List.range ((rowT t).length - 1)).map fun k => decide ((rowT t).getD k [] < (rowT t).getD (k + 1) []))
        rw [List.map_map, List.all_map] at a2
        simp only [Function.comp_def, id] at a2
        have cap : (rowT t).length ≤ 100000 := by omega
        have cap2 : (rowT t).length - 1 ≤ 100000 := by omega
        have kr : rightB n x = ((rowT t).all lenOk && adjB (rowT t)) := by simp [rightB, hp, c1, kl, c2]
        rw [kr]
        have al2 : ((List.range ((rowT t).length - 1)).all fun k => decide ((rowT t).getD k [] < (rowT t).getD (k + 1) [])) = adjB (rowT t) := rfl
        rw [al2] at a2
        have al1 : ((rowT t).all fun w => lenOk w) = (rowT t).all lenOk := rfl
        rw [al1] at a1
        generalize (List.range ((rowT t).length - 1)).map (fun k => PyData.bool (decide ((rowT t).getD k [] < (rowT t).getD (k + 1) []))) = bs at m2 a2
        generalize (rowT t).map (fun w => PyData.bool (lenOk w)) = cs at m1 a1
        generalize adjB (rowT t) = q2 at a2 ⊢
        generalize (rowT t).all lenOk = q1 at a1 ⊢
        have cap3 : ((List.range ((rowT t).length - 1)).map fun k : Nat => PyData.int (1 + (k : Int))).length ≤ 100000 := by simpa using cap2
        have cap4 : ((rowT t).map dS).length ≤ 100000 := by simpa using cap
        generalize (List.range ((rowT t).length - 1)).map (fun k : Nat => PyData.int (1 + (k : Int))) = rs at rg m2 cap3
        have ll : opLen [dLS (rowT t)] = .ok (.int (rowT t).length) := dLS_len _
        have lr : lstR (dLS (rowT t)) = .ok ((rowT t).map dS) := rfl
        generalize (rowT t).map dS = ws at lr m1 cap4
        generalize dLS (rowT t) = W at sd ll lr m2
        cases q1 with
        | true => simp [F__law_is_right, sd, lr, cap4, m1, a1, -dLS_len, ll, rg, cap3, m2, a2]
        | false => simp [F__law_is_right, sd, lr, cap4, m1, a1]
      · rw [if_neg (fun z => c2 z.2)] at sd
        have kr : rightB n x = false := by simp [rightB, hp, kl, c2]
        rw [kr]
        simp [F__law_is_right, sd]
    · rw [if_neg (fun z => c1 z.1)] at sd
      have kr : rightB n x = false := by simp [rightB, hp, c1]
      rw [kr]
      simp [F__law_is_right, sd]
theorem refused_ok (n : Nat) {d : D} (h : R_read n [d] = .exc "BadText") : R__law_refused_k16 (n + 1) [d] = .ok (.bool true) := by
  have e1 : lkp [("BadText", true)] (Str.ofString "BadText") = some true := rfl
  have e2 : lkp [("BadText", false)] (Str.ofString "BadText") = some false := rfl
  simp [R__law_refused_k16, F__law_refused_k16, h, -x_lk1, e1, e2]
/-! ### the spoiled text -/
theorem c32_word {k : Wd} (h : ∀ c ∈ k, isL c = true) : cntC 32 k = 0 := by
  unfold cntC
  rw [List.length_eq_zero_iff, List.filter_eq_nil_iff]
  intro c hc
  have := of_decide_eq_true (h c hc)
  simp
  omega
theorem c32_text : ∀ t : Tr, (∀ w ∈ rowT t, ∀ c ∈ w, isL c = true) → cntC 32 (textT t) = 2 * sizeT t
  | .nil, _ => by simp [textT, cntC, sizeT]
  | .node k l r, h => by
    have h1 := c32_text l fun w hw => h w (by rw [row_split]; simp [hw])
    have h2 := c32_text r fun w hw => h w (by rw [row_split]; simp [hw])
    have h3 := c32_word (h k (by rw [row_split]; simp))
    have a := (add_cnt 32).app
    simp only [textT, a, h1, h2, h3, sizeT]
    have e1 : cntC 32 [40] = 0 := by decide
    have e2 : cntC 32 [32] = 1 := by decide
    have e3 : cntC 32 [41] = 0 := by decide
    omega
theorem smod {c m : Int} (hm : 0 < m) : ∃ k : Nat, c % m = k ∧ (k : Int) < m := ⟨(c % m).toNat, by have := Int.emod_nonneg c (b := m) (by omega); omega, by have := Int.emod_nonneg c (b := m) (by omega); have := Int.emod_lt_of_pos c hm; omega⟩
def signW : Wd := [97, 98, 122, 65, 40, 41, 45, 32, 9, 10, 48, 95, 46, 44, 119]
def abcW : Wd := [97, 98, 99, 100, 101, 102, 103, 104, 105, 106, 107, 108, 109, 110, 111]
def zW : Wd := [122, 122, 122, 122, 122, 122, 122, 122, 122]
theorem lit_sign : (PyData.str "abzA()- \t\n0_.,w") = dS signW := by unfold dS; congr 1
theorem lit_abc : (PyData.str "abcdefghijklmno") = dS abcW := by unfold dS; congr 1
theorem lit_zs : (PyData.str "zzzzzzzzz") = dS zW := by unfold dS; congr 1
theorem lit_none : (PyData.str "") = dS [] := by unfold dS; congr 1
theorem lit_o : (PyData.str "(- ") = dS [40, 45, 32] := by unfold dS; congr 1
theorem lit_c : (PyData.str " -)") = dS [32, 45, 41] := by unfold dS; congr 1
theorem head_z : ∀ m ≤ 8, ∀ w ∈ (List.range m).map fun k => cabs.take (k + 1), w.head? ≠ some 122 := by decide +kernel
theorem keys_z (ns : List Int) (m : Nat) (h : m ≤ 12) : ∀ w ∈ keysF ns m, w.head? ≠ some 122 := by
  unfold keysF
  split
  · rename_i c
    exact head_z (m : Int).toNat (by omega)
  · intro w hw
    obtain ⟨k, hk, rfl⟩ := List.mem_map.mp hw
    rw [List.mem_range] at hk
    have hk2 : k < 12 := by omega
    have a2 : (cellAt ns 28 % 4).toNat ≤ 3 := by omega
    generalize (cellAt ns 28 % 4).toNat = p at a2 ⊢
    have : ∀ k < 12, letC k ≠ 122 := by decide
    have l := this k hk2
    match p, a2 with
    | 0, _ => simpa using l
    | p + 1, _ => simp [preW]
theorem str_sp (a : Wd) : (({ cps := a.toArray } : Str) ++ " ") = { cps := (a ++ [32]).toArray } := by
  show Str.mk (a.toArray ++ (Str.ofString " ").cps) = _
  have : (Str.ofString " ").cps = [32].toArray := rfl
  rw [this]
  simp
theorem rep_sp {T a b : Wd} {fo fa fb : Ev → Rs D} {ev : Ev} (ho : fo ev = .ok (dS T)) (ha : fa ev = .ok (dS a)) (hb : fb ev = .ok (dS b)) (lT : T.length ≤ 200) (la : 1 ≤ a.length) (la2 : a.length ≤ 10) (lb : 1 ≤ b.length) (lb2 : b.length ≤ 10)
    (a40 : cntC 40 a = 0) (b40 : cntC 40 b = 0) (ne : a ≠ b) (c32 : cntC 32 T ≤ 24) (c40 : cntC 40 T < 50) : ∃ x : Wd, eRepA " " " " fo fa fb ev = .ok (dS x) ∧ x.length ≤ 900 ∧ cnt x 0 < 50 := by
  have ad := fun c => (add_cnt c).app
  have s32 : cntC 32 [32] = 1 := by decide
  have s40 : cntC 40 [32] = 0 := by decide
  obtain ⟨r, r1, r2, r3⟩ := repl_ok (x := T) (y := a ++ [32]) (z := b ++ [32]) (by rw [ad, s32]; omega) (by rw [ad, a40, s40]) (by rw [ad, b40, s40])
  have l1 : ((" " : Str)).length = 1 := rfl
  have e1 : repA " " ⟨a.toArray⟩ = true := decide_eq_true (by rw [l1]; simp [Str.length]; omega)
  have e2 : repA " " ⟨b.toArray⟩ = true := decide_eq_true (by rw [l1]; simp [Str.length]; omega)
  have e3 : repB ⟨T.toArray⟩ ⟨(a ++ [32]).toArray⟩ ⟨(b ++ [32]).toArray⟩ = true := by
    unfold repB
    have n : ((({ cps := (a ++ [32]).toArray } : Str) == { cps := (b ++ [32]).toArray }) = false) := by
      rw [beq_eq_false_iff_ne]
      intro z
      have := (strEq _ _).mp z
      exact ne (List.append_cancel_right this)
    rw [n]
    have m : (T.length + 1) * (b ++ [32]).length ≤ 201 * 11 := Nat.mul_le_mul (by omega) (by simp; omega)
    simp only [Str.length, List.size_toArray, Bool.not_false, Bool.true_and]
    exact decide_eq_true (by omega)
  refine ⟨r, ?_, ?_, by rw [cnt_C, r3]; exact c40⟩
  · unfold eRepA
    rw [ho]
    show ((fa ev).bind fun a => strB a fun a => _) = _
    rw [ha]
    show (if repA " " ⟨a.toArray⟩ = true then _ else _) = _
    rw [if_pos e1, hb]
    show (if repA " " ⟨b.toArray⟩ = true ∧ repB ⟨T.toArray⟩ (({ cps := a.toArray } : Str) ++ " ") (({ cps := b.toArray } : Str) ++ " ") = true then _ else _) = _
    rw [str_sp, str_sp, if_pos ⟨e2, e3⟩, r1]
    rfl
  · have m : cntC 32 T * (b ++ [32]).length ≤ 24 * 11 := Nat.mul_le_mul c32 (by simp; omega)
    omega
theorem line_loop (r : List D → Rs D) (s0 s1 s2 s3 s4 s5 s6 s7 s10 : Sl) : ∀ (l : Wd) (s9 : Sl) (line : Wd), (∀ c ∈ l, c ≠ 40) → line.length + 6 * l.length ≤ 1000 →
    ∃ (line' : Wd) (s9' : Sl), loopF (gS1 9) (B1__law_spoiled r) (l.map fun c => dS [c]) [s0, s1, s2, s3, s4, s5, s6, s7, .sh (dS line), s9, s10] = .ok (.nx [s0, s1, s2, s3, s4, s5, s6, s7, .sh (dS line'), s9', s10]) ∧ line'.length = line.length + 6 * l.length ∧ cnt line' 0 = cnt line 0 + l.length
  | [], s9, line, _, _ => ⟨line, s9, rfl, rfl, rfl⟩
  | c :: l, s9, line, h, hb => by
    simp only [List.length_cons] at hb
    have hc : c ≠ 40 := h c List.mem_cons_self
    obtain ⟨x, y, h1, h2, h3⟩ := line_loop r s0 s1 s2 s3 s4 s5 s6 s7 s10 l (.sh (dS [c])) ([40] ++ line ++ [32] ++ [c] ++ [32, 45, 41]) (fun d hd => h d (List.mem_cons_of_mem _ hd)) (by simp; omega)
    refine ⟨x, y, ?_, by rw [h2]; simp; omega, ?_⟩
    · rw [List.map_cons, loopF_cons]
      rw [← h1]
      have b1 : line.length ≤ 90000 := by omega
      have e : B1__law_spoiled r [s0, s1, s2, s3, s4, s5, s6, s7, .sh (dS line), .sh (dS [c]), s10] = .ok (.nx [s0, s1, s2, s3, s4, s5, s6, s7, .sh (dS ([40] ++ line ++ [32] ++ [c] ++ [32, 45, 41])), .sh (dS [c]), s10]) := by
        rw [x_B1__law_spoiled]
        simp only [x_As, x_2, x_C, x_V, lit_open, lit_blank, lit_c, x_hid1, List.getElem?_cons_succ, List.getElem?_cons_zero, x_h1, ok_bind']
        rw [add_ok (by simp; omega), ok_bind', add_ok (by simp; omega), ok_bind', add_ok (by simp; omega), ok_bind', add_ok (by simp; omega), ok_bind']
        rfl
      show ((B1__law_spoiled r [s0, s1, s2, s3, s4, s5, s6, s7, .sh (dS line), .sh (dS [c]), s10]).bind _) = _
      rw [e]
      rfl
    · rw [h3]
      simp only [cnt_C, (add_cnt 40).app]
      have e1 : cntC 40 [40] = 1 := by decide
      have e2 : cntC 40 [32] = 0 := by decide
      have e3 : cntC 40 [32, 45, 41] = 0 := by decide
      have e4 : cntC 40 [c] = 0 := by simp [cntC, hc]
      simp only [List.length_cons]
      omega
def abcs (n : Nat) : List Wd := (List.range n).map fun i => [abcW.getD i 0]
def joinW (n : Nat) : Wd := ((abcs n).intersperse [32, 45, 41, 40, 45, 32]).flatten
def repW (n : Nat) : Wd := (List.replicate n [40, 45, 32]).flatten
theorem rep5 {n : Nat} (h : n = 12 ∨ n = 13 ∨ n = 14) : opRep (dS [40, 45, 32]) (.int n) = .ok (dS (repW n)) := by
  rcases h with rfl | rfl | rfl
  all_goals
    unfold dS
    simp only [opRep]
    rw [if_pos (by decide)]
    congr 1
theorem join5 {n : Nat} (h : n = 12 ∨ n = 13 ∨ n = 14) : opJoin " -)(- " [dLS (abcs n)] = .ok (dS (joinW n)) := by
  have e : ∀ z n, opJoin z [dLS (abcs n)] = joinO z ((abcs n).map dS) := fun _ _ => rfl
  have g : ∀ l : List Wd, strsOf (l.map dS) = some (l.map fun w => (⟨w.toArray⟩ : Str)) := fun l => by
    induction l with
    | nil => rfl
    | cons a l ih => simp only [List.map_cons, dS, strsOf]; rw [ih]; rfl
  rw [e]
  unfold joinO
  rw [g]
  dsimp only
  rcases h with rfl | rfl | rfl
  all_goals
    rw [if_pos (by decide)]
    congr 1
theorem len5 {n : Nat} (h : n = 12 ∨ n = 13 ∨ n = 14) : (repW n ++ joinW n ++ [32, 45, 41]).length ≤ 900 ∧ cnt (repW n ++ joinW n ++ [32, 45, 41]) 0 < 50 := by
  rcases h with rfl | rfl | rfl <;> decide +kernel
theorem words5 (n : Nat) (h : n ≤ 15) : mapF (fun _ => .ok true) (fun d => opIx (dS abcW) d) ((List.range n).map fun k : Nat => .int (k : Int)) = .ok ((abcs n).map dS) := by
  rw [mapF_all (fun k : Nat => PyData.int (k : Int)) (fun i => dS [abcW.getD i 0])]
  · rw [abcs, List.map_map]; rfl
  · intro k hk
    rw [List.mem_range] at hk
    have l : abcW.length = 15 := rfl
    rw [o_ixS, if_pos (by rw [l]; decide), atI_nat (by omega), Int.toNat_natCast, List.getElem?_eq_getElem (by omega)]
    have : abcW.getD k 0 = abcW[k] := by simp [List.getD, List.getElem?_eq_getElem (show k < abcW.length by omega)]
    rw [this]
    rfl
theorem three (T s : Wd) (a b : Nat) (lT : T.length ≤ 200) (hs : s.length ≤ 1) (c40 : cntC 40 T ≤ 12) : (T.take a ++ s ++ T.drop b).length ≤ 900 ∧ cnt (T.take a ++ s ++ T.drop b) 0 < 50 := by
  have h1 := List.length_take_le a T
  have h1' : (T.take a).length ≤ T.length := by rw [List.length_take]; omega
  have h2 : (T.drop b).length ≤ T.length := by rw [List.length_drop]; omega
  constructor
  · simp only [List.length_append]; omega
  · have u1 : cntC 40 (T.take a) ≤ cntC 40 T := ((List.take_sublist a T).filter _).length_le
    have u2 : cntC 40 (T.drop b) ≤ cntC 40 T := ((List.drop_sublist b T).filter _).length_le
    have u3 : cntC 40 s ≤ s.length := List.length_filter_le _ _
    rw [cnt_C, (add_cnt 40).app, (add_cnt 40).app]
    omega
theorem r_spoiled (n : Nat) (ns : List Int) {ks : List Wd} {t : Tr} (hk : Keys ks) (hr : rowT t = ks) (hz : ∀ w ∈ ks, w.head? ≠ some 122) : ∃ x : Wd, R__law_spoiled (n + 2) [dLI ns, dS (textT t), dLS ks] = .ok (dS x) ∧ x.length ≤ 900 ∧ cnt x 0 < 50 := by
  have hw : ∀ w ∈ rowT t, ∀ c ∈ w, isL c = true := by rw [hr]; exact fun w h => isL_ok (hk.word w h)
  have tb := text_bound t (by rw [hr]; exact fun w h => (hk.word w h).2.1)
  have sz : sizeT t = ks.length := by rw [← row_len, hr]
  have h12 := hk.len
  have c40 := cnt_text t hw
  have c32 := c32_text t hw
  rw [cnt_C] at c40
  generalize textT t = T at tb c40 c32 ⊢
  have lT : T.length ≤ 200 := by omega
  have lT5 : T.length ≤ 100000 := by omega
  obtain ⟨w, hw1, hw2⟩ := smod (c := cellAt ns 45) (m := 7) (by decide)
  obtain ⟨a, ha1, ha2⟩ := smod (c := cellAt ns 44) (m := (T.length : Int) + 1) (by omega)
  obtain ⟨g, hg1, hg2⟩ := smod (c := cellAt ns 43) (m := 15) (by decide)
  have st : ∀ ds, R__law_spoiled (n + 2) ds = fnOf 11 3 .e (F__law_spoiled (R__law_cell_at (n + 1))) ds := fun _ => rfl
  rw [st]
  have hsg : opIx (dS signW) (.int g) = .ok (dS [signW.getD g 0]) := by
    have l : signW.length = 15 := rfl
    rw [o_ixS, if_pos (by rw [l]; decide), atI_nat (by omega), Int.toNat_natCast, List.getElem?_eq_getElem (by omega)]
    have : signW.getD g 0 = signW[g] := by simp [List.getD, List.getElem?_eq_getElem (show g < signW.length by omega)]
    rw [this]; rfl
  generalize signW.getD g 0 = sg at hsg
  have pT : (0 : Int) < T.length + 1 := by omega
  have tk : cutD T none (some (a : Int)) = T.take a := by rw [cut_take T a (by omega), Int.toNat_natCast]
  have dk : ∀ i : Nat, cutD T (some ((a : Int) + i)) none = T.drop (a + i) := fun i => by rw [cut_drop T _ (by omega)]; congr 1
  have dk0 := dk 0
  have dk1 := dk 1
  simp only [Int.natCast_zero, Int.add_zero, Nat.add_zero, Int.natCast_one] at dk0 dk1
  have l1' : (T.take a).length ≤ T.length := by rw [List.length_take]; omega
  have l2' : ∀ b, (T.drop b).length ≤ T.length := fun b => by rw [List.length_drop]; omega
  have adds : ∀ (s : Wd) (b : Nat), s.length ≤ 1 → ((opAdd (dS (T.take a)) (dS s)).bind fun x => opAdd x (dS (T.drop b))) = .ok (dS (T.take a ++ s ++ T.drop b)) := fun s b hs => by
    have := l2' b
    rw [add_ok (by omega), ok_bind', add_ok (by rw [List.length_append]; omega)]
  have ww : w = 0 ∨ w = 1 ∨ w = 2 ∨ w = 3 ∨ w = 4 ∨ w = 5 ∨ w = 6 := by omega
  have p0 : ∀ x y z : D, atI [x, y, z] 0 = some x := fun _ _ _ => rfl
  have p1 : ∀ x y z : D, atI [x, y, z] 1 = some y := fun _ _ _ => rfl
  have p2 : ∀ x y z : D, atI [x, y, z] 2 = some z := fun _ _ _ => rfl
  rcases ww with rfl | rfl | rfl | rest
  · have := adds [sg] a (by simp)
    refine ⟨_, ?_, three T [sg] a a lT (by simp) (by omega)⟩
    simp [F__law_spoiled, r_cell, lit_sign, hg1, hw1, hsg, lT5, ha1, pT, tk, dk0, lit_none, -o_addS, p0, this]
  · have := adds [sg] (a + 1) (by simp)
    refine ⟨_, ?_, three T [sg] a (a + 1) lT (by simp) (by omega)⟩
    simp [F__law_spoiled, r_cell, lit_sign, hg1, hw1, hsg, lT5, ha1, pT, tk, dk1, lit_none, -o_addS, p1, this]
  · have := adds [] (a + 1) (by simp)
    refine ⟨_, ?_, three T [] a (a + 1) lT (by simp) (by omega)⟩
    simp [F__law_spoiled, r_cell, lit_sign, hg1, hw1, hsg, lT5, ha1, pT, tk, dk1, lit_none, -o_addS, p2, this]
  · have w5 : w = 3 ∨ w = 4 ∨ w = 5 ∨ w = 6 := rest
    have T24 : cntC 32 T ≤ 24 := by omega
    have T12 : cntC 40 T < 50 := by omega
    have w40 : ∀ k ∈ ks, cntC 40 k = 0 := fun k hk' => by rw [← cnt_C]; exact cnt_word (isL_ok (hk.word k hk'))
    obtain ⟨q, hq1, hq2⟩ := smod (c := (a : Int)) (m := 4) (by decide)
    have line : ∀ wi : Int, ∃ (x : Wd) (s9 : Sl), loopF (gS1 9) (B1__law_spoiled (R__law_cell_at (n + 1))) ((abcW.map fun c => dS [c]).take (11 + q)) [.sh (dLI ns), .sh (dS T), .sh (dLS ks), .sh (dS [sg]), .sh (.int a), .sh (.int wi), .un, .un, .sh (dS [45]), .un, .un] = .ok (.nx [.sh (dLI ns), .sh (dS T), .sh (dLS ks), .sh (dS [sg]), .sh (.int a), .sh (.int wi), .un, .un, .sh (dS x), s9, .un]) ∧ x.length ≤ 900 ∧ cnt x 0 < 50 := fun wi => by
      have ll : (abcW.take (11 + q)).length ≤ 14 := by rw [List.length_take]; omega
      have no : ∀ c ∈ abcW.take (11 + q), c ≠ 40 := fun c hc => by
        have := List.mem_of_mem_take hc
        intro z; subst z; revert this; decide
      obtain ⟨x, s9, e, l1, l2⟩ := line_loop (R__law_cell_at (n + 1)) (.sh (dLI ns)) (.sh (dS T)) (.sh (dLS ks)) (.sh (dS [sg])) (.sh (.int a)) (.sh (.int wi)) .un .un .un (abcW.take (11 + q)) .un [45] no (by simp only [List.length_cons, List.length_nil]; omega)
      have l45 : cnt [45] 0 = 0 := by decide
      rw [List.map_take] at e
      exact ⟨x, s9, e, by rw [l1]; simp only [List.length_cons, List.length_nil]; omega, by rw [l2, l45]; omega⟩
    have al : abcW.length ≤ 100000 := by decide
    have tq : cutD abcW none (some (11 + (q : Int))) = abcW.take (11 + q) := by rw [cut_take _ _ (by omega)]; congr 1
    rcases w5 with rfl | rfl | rfl | rfl
    · by_cases c : 1 < ks.length
      · obtain ⟨p, hp1, hp2⟩ := smod (c := cellAt ns 44) (m := (ks.length : Int) - 1) (by omega)
        have c' : (1 : Int) < ks.length := by omega
        have c'' : (0 : Int) < (ks.length : Int) - 1 := by omega
        have b1 : p + 1 < ks.length := by omega
        have b0 : p < ks.length := by omega
        have i1 : atI ks (1 + (p : Int)) = some ks[p + 1] := by rw [atI_nat (by omega), show ((1 : Int) + p).toNat = p + 1 by omega, List.getElem?_eq_getElem b1]
        have i0 : atI ks ((1 + (p : Int)) - 1) = some ks[p] := by rw [atI_nat (by omega), show ((1 : Int) + p - 1).toNat = p by omega, List.getElem?_eq_getElem b0]
        have o1 := hk.word _ (List.getElem_mem b1)
        have o0 := hk.word _ (List.getElem_mem b0)
        have ne : ks[p + 1] ≠ ks[p] := fun z => by
          have := List.pairwise_iff_getElem.mp hk.srt p (p + 1) b0 b1 (Nat.lt_succ_self p)
          rw [z] at this
          exact List.lt_irrefl _ this
        obtain ⟨x, e, r1, r2⟩ := rep_sp (T := T) (a := ks[p + 1]) (b := ks[p]) (fo := eV 1) (fa := e2 opIx (eV 2) (eV 6)) (fb := e2 opIx (eV 2) (e2 opSub (eV 6) (eC (.int 1))))
          (ev := [some (dLI ns), some (dS T), some (dLS ks), some (dS [sg]), some (.int a), some (.int 3), some (.int (1 + p)), none, none, none, none]) (by simp) (by simp [i1]) (by simp [i0]) lT o1.1 (by have := o1.2.1; omega) o0.1 (by have := o0.2.1; omega) (w40 _ (List.getElem_mem b1)) (w40 _ (List.getElem_mem b0)) ne T24 T12
        refine ⟨x, ?_, r1, r2⟩
        simp [F__law_spoiled, r_cell, lit_sign, hg1, hw1, hsg, lT5, ha1, pT, c, c', c'', hp1, e]
      · obtain ⟨x, s9, lp, lx1, lx2⟩ := line 3
        refine ⟨x, ?_, lx1, lx2⟩
        have c' : ¬ (1 : Int) < ks.length := by omega
        simp [F__law_spoiled, r_cell, lit_sign, hg1, hw1, hsg, lT5, ha1, pT, c, c', hq1, lit_abc, lit_dash, al, tq, lp]
    · by_cases c : 0 < ks.length
      · obtain ⟨p, hp1, hp2⟩ := smod (c := (a : Int)) (m := 2) (by decide)
        have c' : (0 : Int) < ks.length := by omega
        have b1 : ks.length - 1 < ks.length := by omega
        have i1 : atI ks (-1) = some ks[ks.length - 1] := by
          unfold atI ixN
          rw [if_neg (by decide)]
          have h1 : (-1 : Int) + ks.length = ((ks.length - 1 : Nat) : Int) := by omega
          first
            | rw [if_pos (by omega)]
            | skip
          simp
          rw [h1, Int.toNat_natCast, List.getElem?_eq_getElem b1]
        have o1 := hk.word _ (List.getElem_mem b1)
        have zl : zW.length ≤ 100000 := by decide
        have tz : cutD zW none (some (8 + (p : Int))) = zW.take (8 + p) := by rw [cut_take _ _ (by omega)]; congr 1
        have lz : (zW.take (8 + p)).length = 8 + p := by rw [List.length_take, show zW.length = 9 from rfl]; omega
        have ne : ks[ks.length - 1] ≠ zW.take (8 + p) := fun z => by
          have := hz _ (List.getElem_mem b1)
          rw [z] at this
          exact this (by rw [show 8 + p = (7 + p) + 1 by omega]; rfl)
        have z40 : cntC 40 (zW.take (8 + p)) = 0 := by
          have : cntC 40 (zW.take (8 + p)) ≤ cntC 40 zW := ((List.take_sublist _ zW).filter _).length_le
          have e : cntC 40 zW = 0 := by decide
          omega
        obtain ⟨x, e, r1, r2⟩ := rep_sp (T := T) (a := ks[ks.length - 1]) (b := zW.take (8 + p)) (fo := eV 1) (fa := e2 opIx (eV 2) (e1 opNeg (eC (.int 1)))) (fb := eSl opSlS (eC (.str "zzzzzzzzz")) oN (oS (e2 opAdd (eC (.int 8)) (e2 opMod (eV 4) (eC (.int 2))))))
          (ev := [some (dLI ns), some (dS T), some (dLS ks), some (dS [sg]), some (.int a), some (.int 4), none, none, none, none, none]) (by simp) (by simp [i1]) (by simp [lit_zs, hp1, zl, tz]) lT o1.1 (by have := o1.2.1; omega) (by omega) (by omega) (w40 _ (List.getElem_mem b1)) z40 ne T24 T12
        refine ⟨x, ?_, r1, r2⟩
        simp [F__law_spoiled, r_cell, lit_sign, hg1, hw1, hsg, lT5, ha1, pT, c, c', e]
      · obtain ⟨x, s9, lp, lx1, lx2⟩ := line 4
        refine ⟨x, ?_, lx1, lx2⟩
        have c' : ¬ (0 : Int) < ks.length := by omega
        simp [F__law_spoiled, r_cell, lit_sign, hg1, hw1, hsg, lT5, ha1, pT, c, c', hq1, lit_abc, lit_dash, al, tq, lp]
    · obtain ⟨p, hp1, hp2⟩ := smod (c := (a : Int)) (m := 3) (by decide)
      have n5 : 12 + p = 12 ∨ 12 + p = 13 ∨ 12 + p = 14 := by omega
      have e0 : (12 : Int) + p = ((12 + p : Nat) : Int) := by omega
      have e1 : rng1 (.int ((12 : Int) + p)) = .ok ((List.range (12 + p)).map fun k : Nat => .int (k : Int)) := by rw [rng1_eq _ (by omega)]; congr 3
      have e2 := words5 (12 + p) (by omega)
      have e3 := rep5 n5
      have e4 := join5 n5
      have e3' : opRep (dS [40, 45, 32]) (.int (12 + (p : Int))) = .ok (dS (repW (12 + p))) := by rw [e0]; exact e3
      have e5 : (abcs (12 + p)).length = 12 + p := by simp [abcs]
      have e6 : PyData.list ((abcs (12 + p)).map dS) = dLS (abcs (12 + p)) := rfl
      have e7 : (12 + p) ≤ 100000 := by omega
      have bd := len5 n5
      have lr : (repW (12 + p)).length + (joinW (12 + p)).length + 3 ≤ 900 := by have := bd.1; simp only [List.length_append, List.length_cons, List.length_nil] at this; omega
      have e8 : ((opAdd (dS (repW (12 + p))) (dS (joinW (12 + p)))).bind fun x => opAdd x (dS [32, 45, 41])) = .ok (dS (repW (12 + p) ++ joinW (12 + p) ++ [32, 45, 41])) := by
        rw [add_ok (by omega), ok_bind', add_ok (by rw [List.length_append, List.length_cons, List.length_cons, List.length_cons, List.length_nil]; omega)]
      refine ⟨_, ?_, bd⟩
      simp [F__law_spoiled, r_cell, lit_sign, hg1, hw1, hsg, lT5, ha1, pT, hp1, e1, lit_abc, e2, e5, e6, e7, lit_o, lit_c, e3', e4, e8, -o_addS]
    · obtain ⟨x, s9, lp, lx1, lx2⟩ := line 6
      refine ⟨x, ?_, lx1, lx2⟩
      simp [F__law_spoiled, r_cell, lit_sign, hg1, hw1, hsg, lT5, ha1, pT, hq1, lit_abc, lit_dash, al, tq, lp]
theorem pure_k16 (ns : List Int) (h : ns.length ≤ 63) : R_law_k16 60 [.list (ns.map .int)] = .ok (.bool true) := by
  obtain ⟨m, ks, hm, hm12, hks, hk, hl⟩ := start12 ns
  obtain ⟨t, ht, hr, hz, hh⟩ := tree0 59 m hl (by omega) (cellAt ns 42)
  have e0 : R__law_keys 59 [dLI ns, .int m] = .ok (dLS ks) := by rw [← hks]; exact r_keys 57 ns m (by omega) (by omega)
  have tb := text_bound t (by rw [hr]; exact fun w h => (hk.word w h).2.1)
  have e1 := r_text t 59 (by omega) (by omega)
  obtain ⟨x, e2, hx, hc⟩ := r_spoiled 57 ns hk hr (by rw [← hks]; exact keys_z ns m hm12)
  have e3 := r_is_right 58 x hx (by omega)
  have e4 := r_read x hx 57 (by omega)
  have e5 := r_read x hx 56 (by omega)
  have f8 := parse_fuel 50 x 0 hc 8
  have f7 := parse_fuel 50 x 0 hc 7
  have f6 := parse_fuel 50 x 0 hc 6
  unfold rightB at e3
  rw [show 58 = 50 + 8 from rfl, f8] at e3
  rw [show 57 = 50 + 7 from rfl, f7] at e4
  rw [show 56 = 50 + 6 from rfl, f6] at e5
  show R_law_k16 60 [dLI ns] = _
  cases hp : parse 50 x 0 with
  | none =>
    rw [hp] at e3 e5
    replace e3 : R__law_is_right 59 [dS x] = .ok (.bool false) := e3
    have e6 := refused_ok 58 (d := dS x) e5
    simp [R_law_k16, F_law_k16, r_cell, r_many, hm, hm12, e0, ht, e1, e2, e3, e6]
  | some r =>
    rw [hp] at e3 e4 e5
    dsimp only at e3
    by_cases c : r.2 = x.length ∧ keysB (rowT r.1) = true
    · have b : (decide (r.2 = x.length) && keysB (rowT r.1)) = true := by simp [c.1, c.2]
      rw [b] at e3
      dsimp only [outR] at e4
      rw [if_pos c] at e4
      replace e4 : R_read 59 [dS x] = .ok (dT r.1) := e4
      replace e3 : R__law_is_right 59 [dS x] = .ok (.bool true) := e3
      have pb := (parse_back 50 x 0 r hp).1
      rw [c.1, List.drop_zero, List.drop_length, List.append_nil] at pb
      obtain ⟨s1, s2, s3⟩ := parse_sz 50 x 0 r hp
      have e6 := r_text r.1 59 (by omega) (by rw [← pb]; omega)
      rw [← pb] at e6
      simp [R_law_k16, F_law_k16, r_cell, r_many, hm, hm12, e0, ht, e1, e2, e3, e4, e6]
    · have b : (decide (r.2 = x.length) && keysB (rowT r.1)) = false := by
        cases d : keysB (rowT r.1) with
        | false => simp
        | true =>
          have : ¬ r.2 = x.length := fun z => c ⟨z, d⟩
          simp [this]
      rw [b] at e3
      dsimp only [outR] at e5
      rw [if_neg c] at e5
      replace e3 : R__law_is_right 59 [dS x] = .ok (.bool false) := e3
      have e6 := refused_ok 58 (d := dS x) e5
      simp [R_law_k16, F_law_k16, r_cell, r_many, hm, hm12, e0, ht, e1, e2, e3, e6]
end Sk

namespace Sk
namespace k16
open PySem PySem.Spec PyProof.Rows L2
theorem all_mk {l : PySem.W.OpenLaw} {w : World} {K : PySem.W.Frag} {h : Heap} {mg : Str → Option Value} {fa : Addr} (X : K.In h) (G : h.Ns mainGlobals mg) (hfa : mg "law" = some (.ref fa))
    {od0 an0 : Option Addr} {sl0 : Array (Option Value)} {oc0 kV0 dc0 pm0 cd0 ct0 : Value} {f0 : Addr}
    {od1 an1 : Option Addr} {sl1 : Array (Option Value)} {oc1 kV1 dc1 pm1 cd1 ct1 : Value} {f1 : Addr}
    {od2 an2 : Option Addr} {sl2 : Array (Option Value)} {oc2 kV2 dc2 pm2 cd2 ct2 : Value} {f2 : Addr}
    {od3 an3 : Option Addr} {sl3 : Array (Option Value)} {oc3 kV3 dc3 pm3 cd3 ct3 : Value} {f3 : Addr}
    {od4 an4 : Option Addr} {sl4 : Array (Option Value)} {oc4 kV4 dc4 pm4 cd4 ct4 : Value} {f4 : Addr}
    {od5 an5 : Option Addr} {sl5 : Array (Option Value)} {oc5 kV5 dc5 pm5 cd5 ct5 : Value} {f5 : Addr}
    {od6 an6 : Option Addr} {sl6 : Array (Option Value)} {oc6 kV6 dc6 pm6 cd6 ct6 : Value} {f6 : Addr}
    {od7 an7 : Option Addr} {sl7 : Array (Option Value)} {oc7 kV7 dc7 pm7 cd7 ct7 : Value} {f7 : Addr}
    {od8 an8 : Option Addr} {sl8 : Array (Option Value)} {oc8 kV8 dc8 pm8 cd8 ct8 : Value} {f8 : Addr}
    {od9 an9 : Option Addr} {sl9 : Array (Option Value)} {oc9 kV9 dc9 pm9 cd9 ct9 : Value} {f9 : Addr}
    {od10 an10 : Option Addr} {sl10 : Array (Option Value)} {oc10 kV10 dc10 pm10 cd10 ct10 : Value} {f10 : Addr}
    {od11 an11 : Option Addr} {sl11 : Array (Option Value)} {oc11 kV11 dc11 pm11 cd11 ct11 : Value} {f11 : Addr}
    {od12 an12 : Option Addr} {sl12 : Array (Option Value)} {oc12 kV12 dc12 pm12 cd12 ct12 : Value} {f12 : Addr}
    {od13 an13 : Option Addr} {sl13 : Array (Option Value)} {oc13 kV13 dc13 pm13 cd13 ct13 : Value} {f13 : Addr}
    {od14 an14 : Option Addr} {sl14 : Array (Option Value)} {oc14 kV14 dc14 pm14 cd14 ct14 : Value} {f14 : Addr}
    {od15 an15 : Option Addr} {sl15 : Array (Option Value)} {oc15 kV15 dc15 pm15 cd15 ct15 : Value} {f15 : Addr}
    {od16 an16 : Option Addr} {sl16 : Array (Option Value)} {oc16 kV16 dc16 pm16 cd16 ct16 : Value} {f16 : Addr}
    {od17 an17 : Option Addr} {sl17 : Array (Option Value)} {oc17 kV17 dc17 pm17 cd17 ct17 : Value} {f17 : Addr}
    {tk_LETTERS : Tok}
    {tk_MOST_KEYS : Tok}
    {tk_MOST_LETTERS : Tok}
    {C_BadText : Addr}
    {C_NoKeys : Addr}
    {C_NoTree : Addr}
    {C_SeekError : Addr}
    (a0 : PySem.W.nsIn K mainGlobals "row_of" = some (some (.ref f0)))
    (l0 : K.lookup f0 = some ⟨oc0, od0, .func (PySem.W.fnOf "row_of" "row_of" (defArgs st_row_of) (defBody st_row_of) (defScope st_row_of) .none kV0 dc0 pm0 an0 cd0 ct0), sl0⟩)
    (c0 : PySem.W.codeIn K cd0 "row_of" = true)
    (k0 : PySem.W.keepIn K (.ref f0) = true)
    (a1 : PySem.W.nsIn K mainGlobals "_law_cell_at" = some (some (.ref f1)))
    (l1 : K.lookup f1 = some ⟨oc1, od1, .func (PySem.W.fnOf "_law_cell_at" "_law_cell_at" (defArgs st__law_cell_at) (defBody st__law_cell_at) (defScope st__law_cell_at) .none kV1 dc1 pm1 an1 cd1 ct1), sl1⟩)
    (c1 : PySem.W.codeIn K cd1 "_law_cell_at" = true)
    (k1 : PySem.W.keepIn K (.ref f1) = true)
    (a2 : PySem.W.nsIn K mainGlobals "_law_mix" = some (some (.ref f2)))
    (l2 : K.lookup f2 = some ⟨oc2, od2, .func (PySem.W.fnOf "_law_mix" "_law_mix" (defArgs st__law_mix) (defBody st__law_mix) (defScope st__law_mix) .none kV2 dc2 pm2 an2 cd2 ct2), sl2⟩)
    (c2 : PySem.W.codeIn K cd2 "_law_mix" = true)
    (k2 : PySem.W.keepIn K (.ref f2) = true)
    (a3 : PySem.W.nsIn K mainGlobals "_law_many" = some (some (.ref f3)))
    (l3 : K.lookup f3 = some ⟨oc3, od3, .func (PySem.W.fnOf "_law_many" "_law_many" (defArgs st__law_many) (defBody st__law_many) (defScope st__law_many) .none kV3 dc3 pm3 an3 cd3 ct3), sl3⟩)
    (c3 : PySem.W.codeIn K cd3 "_law_many" = true)
    (k3 : PySem.W.keepIn K (.ref f3) = true)
    (a4 : PySem.W.nsIn K mainGlobals "_law_keys" = some (some (.ref f4)))
    (l4 : K.lookup f4 = some ⟨oc4, od4, .func (PySem.W.fnOf "_law_keys" "_law_keys" (defArgs st__law_keys) (defBody st__law_keys) (defScope st__law_keys) .none kV4 dc4 pm4 an4 cd4 ct4), sl4⟩)
    (c4 : PySem.W.codeIn K cd4 "_law_keys" = true)
    (k4 : PySem.W.keepIn K (.ref f4) = true)
    (a5 : PySem.W.nsIn K mainGlobals "_law_tree" = some (some (.ref f5)))
    (l5 : K.lookup f5 = some ⟨oc5, od5, .func (PySem.W.fnOf "_law_tree" "_law_tree" (defArgs st__law_tree) (defBody st__law_tree) (defScope st__law_tree) .none kV5 dc5 pm5 an5 cd5 ct5), sl5⟩)
    (c5 : PySem.W.codeIn K cd5 "_law_tree" = true)
    (k5 : PySem.W.keepIn K (.ref f5) = true)
    (a6 : PySem.W.nsIn K mainGlobals "is_word" = some (some (.ref f6)))
    (l6 : K.lookup f6 = some ⟨oc6, od6, .func (PySem.W.fnOf "is_word" "is_word" (defArgs st_is_word) (defBody st_is_word) (defScope st_is_word) .none kV6 dc6 pm6 an6 cd6 ct6), sl6⟩)
    (c6 : PySem.W.codeIn K cd6 "is_word" = true)
    (k6 : PySem.W.keepIn K (.ref f6) = true)
    (a7 : PySem.W.nsIn K mainGlobals "are_keys" = some (some (.ref f7)))
    (l7 : K.lookup f7 = some ⟨oc7, od7, .func (PySem.W.fnOf "are_keys" "are_keys" (defArgs st_are_keys) (defBody st_are_keys) (defScope st_are_keys) .none kV7 dc7 pm7 an7 cd7 ct7), sl7⟩)
    (c7 : PySem.W.codeIn K cd7 "are_keys" = true)
    (k7 : PySem.W.keepIn K (.ref f7) = true)
    (a8 : PySem.W.nsIn K mainGlobals "behind" = some (some (.ref f8)))
    (l8 : K.lookup f8 = some ⟨oc8, od8, .func (PySem.W.fnOf "behind" "behind" (defArgs st_behind) (defBody st_behind) (defScope st_behind) .none kV8 dc8 pm8 an8 cd8 ct8), sl8⟩)
    (c8 : PySem.W.codeIn K cd8 "behind" = true)
    (k8 : PySem.W.keepIn K (.ref f8) = true)
    (a9 : PySem.W.nsIn K mainGlobals "word_end" = some (some (.ref f9)))
    (l9 : K.lookup f9 = some ⟨oc9, od9, .func (PySem.W.fnOf "word_end" "word_end" (defArgs st_word_end) (defBody st_word_end) (defScope st_word_end) .none kV9 dc9 pm9 an9 cd9 ct9), sl9⟩)
    (c9 : PySem.W.codeIn K cd9 "word_end" = true)
    (k9 : PySem.W.keepIn K (.ref f9) = true)
    (a10 : PySem.W.nsIn K mainGlobals "tree_at" = some (some (.ref f10)))
    (l10 : K.lookup f10 = some ⟨oc10, od10, .func (PySem.W.fnOf "tree_at" "tree_at" (defArgs st_tree_at) (defBody st_tree_at) (defScope st_tree_at) .none kV10 dc10 pm10 an10 cd10 ct10), sl10⟩)
    (c10 : PySem.W.codeIn K cd10 "tree_at" = true)
    (k10 : PySem.W.keepIn K (.ref f10) = true)
    (a11 : PySem.W.nsIn K mainGlobals "read" = some (some (.ref f11)))
    (l11 : K.lookup f11 = some ⟨oc11, od11, .func (PySem.W.fnOf "read" "read" (defArgs st_read) (defBody st_read) (defScope st_read) .none kV11 dc11 pm11 an11 cd11 ct11), sl11⟩)
    (c11 : PySem.W.codeIn K cd11 "read" = true)
    (k11 : PySem.W.keepIn K (.ref f11) = true)
    (a12 : PySem.W.nsIn K mainGlobals "_law_text" = some (some (.ref f12)))
    (l12 : K.lookup f12 = some ⟨oc12, od12, .func (PySem.W.fnOf "_law_text" "_law_text" (defArgs st__law_text) (defBody st__law_text) (defScope st__law_text) .none kV12 dc12 pm12 an12 cd12 ct12), sl12⟩)
    (c12 : PySem.W.codeIn K cd12 "_law_text" = true)
    (k12 : PySem.W.keepIn K (.ref f12) = true)
    (a13 : PySem.W.nsIn K mainGlobals "_law_end" = some (some (.ref f13)))
    (l13 : K.lookup f13 = some ⟨oc13, od13, .func (PySem.W.fnOf "_law_end" "_law_end" (defArgs st__law_end) (defBody st__law_end) (defScope st__law_end) .none kV13 dc13 pm13 an13 cd13 ct13), sl13⟩)
    (c13 : PySem.W.codeIn K cd13 "_law_end" = true)
    (k13 : PySem.W.keepIn K (.ref f13) = true)
    (a14 : PySem.W.nsIn K mainGlobals "_law_is_right" = some (some (.ref f14)))
    (l14 : K.lookup f14 = some ⟨oc14, od14, .func (PySem.W.fnOf "_law_is_right" "_law_is_right" (defArgs st__law_is_right) (defBody st__law_is_right) (defScope st__law_is_right) .none kV14 dc14 pm14 an14 cd14 ct14), sl14⟩)
    (c14 : PySem.W.codeIn K cd14 "_law_is_right" = true)
    (k14 : PySem.W.keepIn K (.ref f14) = true)
    (a15 : PySem.W.nsIn K mainGlobals "_law_spoiled" = some (some (.ref f15)))
    (l15 : K.lookup f15 = some ⟨oc15, od15, .func (PySem.W.fnOf "_law_spoiled" "_law_spoiled" (defArgs st__law_spoiled) (defBody st__law_spoiled) (defScope st__law_spoiled) .none kV15 dc15 pm15 an15 cd15 ct15), sl15⟩)
    (c15 : PySem.W.codeIn K cd15 "_law_spoiled" = true)
    (k15 : PySem.W.keepIn K (.ref f15) = true)
    (a16 : PySem.W.nsIn K mainGlobals "_law_refused" = some (some (.ref f16)))
    (l16 : K.lookup f16 = some ⟨oc16, od16, .func (PySem.W.fnOf "_law_refused" "_law_refused" (defArgs st__law_refused_k16) (defBody st__law_refused_k16) (defScope st__law_refused_k16) .none kV16 dc16 pm16 an16 cd16 ct16), sl16⟩)
    (c16 : PySem.W.codeIn K cd16 "_law_refused" = true)
    (k16 : PySem.W.keepIn K (.ref f16) = true)
    (a17 : PySem.W.nsIn K mainGlobals "law" = some (some (.ref f17)))
    (l17 : K.lookup f17 = some ⟨oc17, od17, .func (PySem.W.fnOf "law" "law" (defArgs st_law_k16) (defBody st_law_k16) (defScope st_law_k16) .none kV17 dc17 pm17 an17 cd17 ct17), sl17⟩)
    (c17 : PySem.W.codeIn K cd17 "law" = true)
    (k17 : PySem.W.keepIn K (.ref f17) = true)
    (z_ValueError : PySem.W.nsIn K mainGlobals "ValueError" = some none)
    (z_all : PySem.W.nsIn K mainGlobals "all" = some none)
    (z_int : PySem.W.nsIn K mainGlobals "int" = some none)
    (z_isinstance : PySem.W.nsIn K mainGlobals "isinstance" = some none)
    (z_len : PySem.W.nsIn K mainGlobals "len" = some none)
    (z_min : PySem.W.nsIn K mainGlobals "min" = some none)
    (z_range : PySem.W.nsIn K mainGlobals "range" = some none)
    (y_LETTERS : PySem.W.nsIn K mainGlobals "LETTERS" = some (some (.str "abcdefghijklmnopqrstuvwxyz" tk_LETTERS)))
    (y_MOST_KEYS : PySem.W.nsIn K mainGlobals "MOST_KEYS" = some (some (.int 12 tk_MOST_KEYS)))
    (y_MOST_LETTERS : PySem.W.nsIn K mainGlobals "MOST_LETTERS" = some (some (.int 8 tk_MOST_LETTERS)))
    (x1_BadText : PySem.W.nsIn K mainGlobals "BadText" = some (some (.ref C_BadText)))
    (x2_BadText : PySem.W.excIn K C_BadText [.type "ValueError", .type "Exception", .type "BaseException", .type "object"] "ValueError.__new__" = true)
    (x3_BadText : PySem.W.keepIn K (.ref C_BadText) = true)
    (x4_BadText : PySem.W.subIn K (.ref C_BadText) (.type "BaseException") = some true)
    (x5_BadText : PySem.W.typeIn K (.ref C_BadText) = some (.type "type"))
    (x1_NoKeys : PySem.W.nsIn K mainGlobals "NoKeys" = some (some (.ref C_NoKeys)))
    (x1_NoTree : PySem.W.nsIn K mainGlobals "NoTree" = some (some (.ref C_NoTree)))
    (x1_SeekError : PySem.W.nsIn K mainGlobals "SeekError" = some (some (.ref C_SeekError)))
    (ecn : PySem.W.specialIn K (.builtin "object.__class__") "__get__" = some (some (.builtin "getset_descriptor.__get__")))
    (ect : PySem.W.takesIn K (.builtin "object.__class__") = some true)
    (ehg_BadText : PySem.W.findIn K (.ref C_BadText) "__getattribute__" = some (some (.builtin "BaseException.__getattribute__")))
    (ehk_BadText : PySem.W.findIn K (.ref C_BadText) "__getattr__" = some none)
    (ehs_BadText : PySem.W.subIn K (.ref C_BadText) (.type "BaseException") = some true)
    (ehd_BadText : PySem.W.hasDictIn K C_BadText = true)
    (eha_BadText : PySem.W.findIn K (.ref C_BadText) "__class__" = some (some (.builtin "object.__class__")))
    (ehm_BadText : PySem.W.mroIn K C_BadText (.type "object") = some true)
    (i_BadText_NoKeys : PySem.W.kitOne K (.ref C_BadText) (.ref C_NoKeys) = some false)
    (i_BadText_NoTree : PySem.W.kitOne K (.ref C_BadText) (.ref C_NoTree) = some false)
    (i_BadText_SeekError : PySem.W.kitOne K (.ref C_BadText) (.ref C_SeekError) = some true)
    (i_BadText_ValueError : PySem.W.kitOne K (.ref C_BadText) (.type "ValueError") = some true)
    (m_BadText_BadText : PySem.W.exmOne K (.ref C_BadText) (.ref C_BadText) = some true)
    : ∃ fd : FuncData, (∀ (s : Shared) (v : Value), BindsTo s fd ⟨[v], []⟩ [("script", v)]) ∧ ∀ base : Heap, K.In base → base.Ns mainGlobals mg → FnOk l.prog w K mg base (L2.CX l.prog w) 60 fa fd ["script"] (lawSp K) := by
  have e := hfa.symm.trans (PySem.W.mg_of X G a17)
  cases e
  have F0 := fun_mk (st := st_row_of) l0 c0 k0
  have b0 := F0.binds (ps := ["tree"]) fun _ _ _ _ _ _ us hl => match us, hl with | [_], _ => rfl
  have F1 := fun_mk (st := st__law_cell_at) l1 c1 k1
  have b1 := F1.binds (ps := ["script", "k"]) fun _ _ _ _ _ _ us hl => match us, hl with | [_, _], _ => rfl
  have F2 := fun_mk (st := st__law_mix) l2 c2 k2
  have b2 := F2.binds (ps := ["cell", "k"]) fun _ _ _ _ _ _ us hl => match us, hl with | [_, _], _ => rfl
  have F3 := fun_mk (st := st__law_many) l3 c3 k3
  have b3 := F3.binds (ps := ["cell", "most"]) fun _ _ _ _ _ _ us hl => match us, hl with | [_, _], _ => rfl
  have F4 := fun_mk (st := st__law_keys) l4 c4 k4
  have b4 := F4.binds (ps := ["script", "many"]) fun _ _ _ _ _ _ us hl => match us, hl with | [_, _], _ => rfl
  have F5 := fun_mk (st := st__law_tree) l5 c5 k5
  have b5 := F5.binds (ps := ["keys", "cell", "first", "last"]) fun _ _ _ _ _ _ us hl => match us, hl with | [_, _, _, _], _ => rfl
  have F6 := fun_mk (st := st_is_word) l6 c6 k6
  have b6 := F6.binds (ps := ["text"]) fun _ _ _ _ _ _ us hl => match us, hl with | [_], _ => rfl
  have F7 := fun_mk (st := st_are_keys) l7 c7 k7
  have b7 := F7.binds (ps := ["keys"]) fun _ _ _ _ _ _ us hl => match us, hl with | [_], _ => rfl
  have F8 := fun_mk (st := st_behind) l8 c8 k8
  have b8 := F8.binds (ps := ["text", "at", "sign"]) fun _ _ _ _ _ _ us hl => match us, hl with | [_, _, _], _ => rfl
  have F9 := fun_mk (st := st_word_end) l9 c9 k9
  have b9 := F9.binds (ps := ["text", "at"]) fun _ _ _ _ _ _ us hl => match us, hl with | [_, _], _ => rfl
  have F10 := fun_mk (st := st_tree_at) l10 c10 k10
  have b10 := F10.binds (ps := ["text", "at"]) fun _ _ _ _ _ _ us hl => match us, hl with | [_, _], _ => rfl
  have F11 := fun_mk (st := st_read) l11 c11 k11
  have b11 := F11.binds (ps := ["text"]) fun _ _ _ _ _ _ us hl => match us, hl with | [_], _ => rfl
  have F12 := fun_mk (st := st__law_text) l12 c12 k12
  have b12 := F12.binds (ps := ["tree"]) fun _ _ _ _ _ _ us hl => match us, hl with | [_], _ => rfl
  have F13 := fun_mk (st := st__law_end) l13 c13 k13
  have b13 := F13.binds (ps := ["text", "at", "words"]) fun _ _ _ _ _ _ us hl => match us, hl with | [_, _, _], _ => rfl
  have F14 := fun_mk (st := st__law_is_right) l14 c14 k14
  have b14 := F14.binds (ps := ["text"]) fun _ _ _ _ _ _ us hl => match us, hl with | [_], _ => rfl
  have F15 := fun_mk (st := st__law_spoiled) l15 c15 k15
  have b15 := F15.binds (ps := ["script", "text", "keys"]) fun _ _ _ _ _ _ us hl => match us, hl with | [_, _, _], _ => rfl
  have F16 := fun_mk (st := st__law_refused_k16) l16 c16 k16
  have b16 := F16.binds (ps := ["text"]) fun _ _ _ _ _ _ us hl => match us, hl with | [_], _ => rfl
  have F17 := fun_mk (st := st_law_k16) l17 c17 k17
  have T : Tp K mg := {
    n_ValueError := PySem.W.mg_none_of X G z_ValueError
    n_all := PySem.W.mg_none_of X G z_all
    n_int := PySem.W.mg_none_of X G z_int
    n_isinstance := PySem.W.mg_none_of X G z_isinstance
    n_len := PySem.W.mg_none_of X G z_len
    n_min := PySem.W.mg_none_of X G z_min
    n_range := PySem.W.mg_none_of X G z_range
    c_LETTERS := ⟨_, PySem.W.mg_of X G y_LETTERS⟩
    c_MOST_KEYS := ⟨_, PySem.W.mg_of X G y_MOST_KEYS⟩
    c_MOST_LETTERS := ⟨_, PySem.W.mg_of X G y_MOST_LETTERS⟩
    x_BadText := ⟨⟨_, PySem.W.mg_of X G x1_BadText, x2_BadText, x3_BadText, x4_BadText, x5_BadText⟩⟩
    xs := ⟨C_BadText, C_NoKeys, C_NoTree, C_SeekError, { g_BadText := PySem.W.mg_of X G x1_BadText, n_BadText := x1_BadText, g_NoKeys := PySem.W.mg_of X G x1_NoKeys, n_NoKeys := x1_NoKeys, g_NoTree := PySem.W.mg_of X G x1_NoTree, n_NoTree := x1_NoTree, g_SeekError := PySem.W.mg_of X G x1_SeekError, n_SeekError := x1_SeekError, e_BadText := ⟨ehg_BadText, ehk_BadText, ehs_BadText, ehd_BadText, eha_BadText, ecn, ect, ehm_BadText⟩, i_BadText_NoKeys := i_BadText_NoKeys, i_BadText_NoTree := i_BadText_NoTree, i_BadText_SeekError := i_BadText_SeekError, i_BadText_ValueError := i_BadText_ValueError, m_BadText_BadText := m_BadText_BadText }⟩
    d_row_of := ⟨⟨_, _, F0, PySem.W.mg_of X G a0, b0⟩⟩
    d__law_cell_at := ⟨⟨_, _, F1, PySem.W.mg_of X G a1, b1⟩⟩
    d__law_mix := ⟨⟨_, _, F2, PySem.W.mg_of X G a2, b2⟩⟩
    d__law_many := ⟨⟨_, _, F3, PySem.W.mg_of X G a3, b3⟩⟩
    d__law_keys := ⟨⟨_, _, F4, PySem.W.mg_of X G a4, b4⟩⟩
    d__law_tree := ⟨⟨_, _, F5, PySem.W.mg_of X G a5, b5⟩⟩
    d_is_word := ⟨⟨_, _, F6, PySem.W.mg_of X G a6, b6⟩⟩
    d_are_keys := ⟨⟨_, _, F7, PySem.W.mg_of X G a7, b7⟩⟩
    d_behind := ⟨⟨_, _, F8, PySem.W.mg_of X G a8, b8⟩⟩
    d_word_end := ⟨⟨_, _, F9, PySem.W.mg_of X G a9, b9⟩⟩
    d_tree_at := ⟨⟨_, _, F10, PySem.W.mg_of X G a10, b10⟩⟩
    d_read := ⟨⟨_, _, F11, PySem.W.mg_of X G a11, b11⟩⟩
    d__law_text := ⟨⟨_, _, F12, PySem.W.mg_of X G a12, b12⟩⟩
    d__law_end := ⟨⟨_, _, F13, PySem.W.mg_of X G a13, b13⟩⟩
    d__law_is_right := ⟨⟨_, _, F14, PySem.W.mg_of X G a14, b14⟩⟩
    d__law_spoiled := ⟨⟨_, _, F15, PySem.W.mg_of X G a15, b15⟩⟩
    d__law_refused_k16 := ⟨⟨_, _, F16, PySem.W.mg_of X G a16, b16⟩⟩ }
  exact ⟨PySem.W.fnOf "law" "law" (defArgs st_law_k16) (defBody st_law_k16) (defScope st_law_k16) .none kV17 dc17 pm17 an17 cd17 ct17, fun s v => .of_eq rfl, fun base _ _ => law_fin (k_law T 59 F17) pure_k16⟩
end k16
end Sk
open PySem PySem.W PyProof.Rows
set_option maxHeartbeats 0 in
theorem PySem.Challenge.cw_seektree_k16_texts_refused_holds : PySem.Challenge.rw_seektree_k16_texts_refused.Holds := by
  w_on; o_law; k_head; (case hw => w_witness2)
  k_fill
  refine L2.walk_of (l := PySem.Challenge.rw_seektree_k16_texts_refused) (n := 63) (k := 60) (x := "script") (CX := fun w => L2.CX PySem.Challenge.rw_seektree_k16_texts_refused.prog w) (sp := fun w => Sk.lawSp _) rfl (by decide) rfl ⟨rfl, by decide, by decide⟩ (fun w h Y => PySem.W.kIn_of Y) ?F (fun _ _ a ns hl _ hS => ⟨a, ns, rfl, hS, hl, fun _ => rfl⟩) (fun _ _ _ _ _ h => Sk.CX_false h)
  case F =>
    intro w mg fa h KX G hmg
    refine' Sk.k16.all_mk KX G hmg ?a0 ?l0 ?c0 ?k0 ?a1 ?l1 ?c1 ?k1 ?a2 ?l2 ?c2 ?k2 ?a3 ?l3 ?c3 ?k3 ?a4 ?l4 ?c4 ?k4 ?a5 ?l5 ?c5 ?k5 ?a6 ?l6 ?c6 ?k6 ?a7 ?l7 ?c7 ?k7 ?a8 ?l8 ?c8 ?k8 ?a9 ?l9 ?c9 ?k9 ?a10 ?l10 ?c10 ?k10 ?a11 ?l11 ?c11 ?k11 ?a12 ?l12 ?c12 ?k12 ?a13 ?l13 ?c13 ?k13 ?a14 ?l14 ?c14 ?k14 ?a15 ?l15 ?c15 ?k15 ?a16 ?l16 ?c16 ?k16 ?a17 ?l17 ?c17 ?k17 ?z_ValueError ?z_all ?z_int ?z_isinstance ?z_len ?z_min ?z_range ?y_LETTERS ?y_MOST_KEYS ?y_MOST_LETTERS ?x1_BadText ?x2_BadText ?x3_BadText ?x4_BadText ?x5_BadText ?x1_NoKeys ?x1_NoTree ?x1_SeekError ?ecn ?ect ?ehg_BadText ?ehk_BadText ?ehs_BadText ?ehd_BadText ?eha_BadText ?ehm_BadText ?i_BadText_NoKeys ?i_BadText_NoTree ?i_BadText_SeekError ?i_BadText_ValueError ?m_BadText_BadText
    (case a0 => k_is); (case l0 => k_is); (case c0 => k_is); (case k0 => k_is); (case a1 => k_is); (case l1 => k_is); (case c1 => k_is); (case k1 => k_is); (case a2 => k_is); (case l2 => k_is); (case c2 => k_is); (case k2 => k_is); (case a3 => k_is); (case l3 => k_is); (case c3 => k_is); (case k3 => k_is); (case a4 => k_is); (case l4 => k_is); (case c4 => k_is); (case k4 => k_is); (case a5 => k_is); (case l5 => k_is); (case c5 => k_is); (case k5 => k_is); (case a6 => k_is); (case l6 => k_is); (case c6 => k_is); (case k6 => k_is); (case a7 => k_is); (case l7 => k_is); (case c7 => k_is); (case k7 => k_is); (case a8 => k_is); (case l8 => k_is); (case c8 => k_is); (case k8 => k_is); (case a9 => k_is); (case l9 => k_is); (case c9 => k_is); (case k9 => k_is); (case a10 => k_is); (case l10 => k_is); (case c10 => k_is); (case k10 => k_is); (case a11 => k_is); (case l11 => k_is); (case c11 => k_is); (case k11 => k_is); (case a12 => k_is); (case l12 => k_is); (case c12 => k_is); (case k12 => k_is); (case a13 => k_is); (case l13 => k_is); (case c13 => k_is); (case k13 => k_is); (case a14 => k_is); (case l14 => k_is); (case c14 => k_is); (case k14 => k_is); (case a15 => k_is); (case l15 => k_is); (case c15 => k_is); (case k15 => k_is); (case a16 => k_is); (case l16 => k_is); (case c16 => k_is); (case k16 => k_is); (case a17 => k_is); (case l17 => k_is); (case c17 => k_is); (case k17 => k_is); (case z_ValueError => k_is); (case z_all => k_is); (case z_int => k_is); (case z_isinstance => k_is); (case z_len => k_is); (case z_min => k_is); (case z_range => k_is); (case y_LETTERS => k_is); (case y_MOST_KEYS => k_is); (case y_MOST_LETTERS => k_is); (case x1_BadText => k_is); (case x2_BadText => k_exc); (case x3_BadText => k_is); (case x4_BadText => k_is); (case x5_BadText => k_is); (case x1_NoKeys => k_is); (case x1_NoTree => k_is); (case x1_SeekError => k_is); (case ecn => k_is); (case ect => k_is); (case ehg_BadText => k_is); (case ehk_BadText => k_is); (case ehs_BadText => k_is); (case ehd_BadText => k_is); (case eha_BadText => k_is); (case ehm_BadText => k_is); (case i_BadText_NoKeys => kit_is); (case i_BadText_NoTree => kit_is); (case i_BadText_SeekError => kit_is); (case i_BadText_ValueError => kit_is); (case m_BadText_BadText => kts_exm)
